import PyProof.Rows.All
import Wide.All
import OpenK.AllK
import Wide.FinOn
import HandS.ForMost
import HandS.AnyAll
import HandS.GenOver
import PyProof.GenRules
import PyProof.GenQ
import PyProof.SumAny
import HandS.IsInst
import HandS.Deep
import HandS.TupAny
import HandS.TupMul
import HandS.TupLe
import HandS.Style
import HandS.SortInts
import HandS.Star
import HandS.Conv
import HandS.Wide
import HandS.Rev
import HandS.Zip
import HandS.RevTup
import HandS.GenList
import HandS.EndOwn
import HandS.HeadWalk
import PySem.Challenge.RW_coinstruck_k92_whole_check_marks
set_option Elab.async false
set_option linter.all false
set_option maxRecDepth 100000
set_option maxHeartbeats 4000000
namespace DL
open PySem PySem.Spec PyProof.Rows L2 GxR GenW

/-! ### a generator expression whose element is any reading -/
/-- its scope: no cells of its own, its iterator at «.0» -/
structure GOk (scope : Scope) : Prop where
  co : scope.isCoroutine = false
  cell : ∀ y ∈ scope.names, y.2 ≠ .cell
  dot : scope.names.lookup (".0" : Str) = some NameKind.local
/-- the context of a generator's frame -/
abbrev gcx (X : Cx) (A' : Around) (s : Shared) (H : Hp) (cenv : Env) (fp : List Addr) (pn : List (Addr × Obj)) : Cx :=
  { X with A := A', s_0 := s, H_0 := H, env := cenv, outer := X.stack, stack := cenv :: X.stack, ex := fp, fn := fun _ => false, pn := pn, xe := fun _ _ => False }
section
variable {X : Cx} {pins : List (Addr × Obj)} {σ : L2.St} {H : Hp} {s : Shared}
theorem gen_start {scope : Scope} {own : List (Str × Nat)} {fp : List Addr} {code : Value} {A' : Around} {it : Value} {h' : Heap} {go : Obj} {gens' : Array GenState} {tk : Nat}
    (I : Inv X pins σ H s) (ok : BlkOk X.N X.env.scope scope own) (gk : GOk scope) (hN : X.N.Nodup) (hfp : ∀ b ∈ fp, FpOk X pins H b ∧ b < s.heap.objs.size)
    (hAh : X.calm = true → A'.handled = none) (hAf : A'.frames = some (genEnv scope (cloFrom X.env.cells scope.names []) s.heap.objs.size code builtinsNs X.env :: X.stack))
    (hn : h'.Ns s.heap.objs.size (fun y => if y = ".0" then some it else none)) (hs : Heap.SameBut s.heap.objs.size (s.heap.push { cls := .type "frame", data := .dict #[] }) h')
    (hgb : AllBare gens') (hgo : ∀ v, go.data ≠ .cell v) (hgp : ∀ h : Heap, (h.push go).get? h.objs.size = some go) :
    Inv (gcx X A' s H (genEnv scope (cloFrom X.env.cells scope.names []) s.heap.objs.size code builtinsNs X.env) fp [(h'.objs.size, go)]) [] (wipe σ (own.map (·.2))) H { s with gens := gens', toks := tk, heap := h'.push go } := by
  have hfree : ∀ y ∈ scope.names, y.2 = .free → ∃ c, X.env.cells.lookup y.1 = some c := fun y hy e => by
    rcases ok.free y hy e with k | k
    · exact I.ok.has _ (.inl k)
    · exact I.ok.has _ (.inr k)
  generalize hcenv : genEnv scope (cloFrom X.env.cells scope.names []) s.heap.objs.size code builtinsNs X.env = cenv at hAf ⊢
  have hL : cenv.locals = s.heap.objs.size := by rw [← hcenv]; rfl
  have hcl : cenv.cells = cloFrom X.env.cells scope.names [] := by rw [← hcenv]; rfl
  have hsc : cenv.scope = scope := by rw [← hcenv]; rfl
  have hfr : cenv.frame = some cenv.locals := by rw [← hcenv]; rfl
  have hsz : h'.objs.size = s.heap.objs.size + 1 := by rw [hs.1, Heap.size_push]
  have kp0 : ∀ b o, s.heap.get? b = some o → h'.get? b = some o := fun b o e => hs.extBut b o (Nat.ne_of_lt (Heap.lt_size e)) (Heap.get?_push_of_some _ e)
  have kp : ∀ b o, s.heap.get? b = some o → (h'.push go).get? b = some o := fun b o e => Heap.get?_push_of_some _ (kp0 b o e)
  have cm : ∀ {y c}, cenv.cells.lookup y = some c → X.env.cells.lookup y = some c ∧ c < s.heap.objs.size := fun {y c} e => by
    rw [hcl] at e
    rcases cloFrom_mem (PySem.mem_of_lookup e) with hm | ⟨h1, rfl⟩
    · cases hm
    · obtain ⟨c, hc⟩ := hfree _ h1 rfl
      rw [hc]
      obtain ⟨w, z⟩ := I.cell _ _ hc
      exact ⟨rfl, z.lt⟩
  have look : ∀ {y}, scope.names.lookup y = some .free → ∃ c, cenv.cells.lookup y = some c ∧ X.env.cells.lookup y = some c := fun {y} hl => by
    have hy : (y, NameKind.free) ∈ scope.names := PySem.mem_of_lookup hl
    obtain ⟨c', e'⟩ := mem_lookup (cloFrom_has (cells := X.env.cells) (acc := []) hy)
    rw [← hcl] at e'
    exact ⟨c', e', (cm e').1⟩
  have noCell : ∀ y, scope.names.lookup y ≠ some .cell := fun y e => gk.cell _ (PySem.mem_of_lookup e) rfl
  have young : ∀ b, s.heap.objs.size ≤ b → H b = none := fun b hb => I.hok.fresh hb
  have okB : (gcx X A' s H cenv fp [(h'.objs.size, go)]).Ok := by
    refine ⟨I.ok.mod, by show cenv.scope.kind = _; rw [hsc]; exact ok.kind, by show cenv.globals = _; rw [← hcenv]; exact I.ok.glob, by show cenv.builtins = _; rw [← hcenv]; rfl, by show s.heap.objs.size ≤ cenv.locals; rw [hL]; exact Nat.le_refl _,
      fun y z c e1 e2 => I.ok.inj y z c (cm e1).1 (cm e2).1, fun y hy => ?_, fun y c z e => Bool.noConfusion z, hAh, hAf, .inr ⟨rfl, hfr⟩, fun b hb => ⟨?_, fun y c e z => ?_⟩, I.bs, Nat.le_trans I.ok.bsz I.sz, fun b o e hb => ?_, fun b hb z => ?_, I.stack, I.stkFree⟩
    · show ∃ c, cenv.cells.lookup y = some c
      have hy : cenv.kindOf y = some .cell ∨ cenv.kindOf y = some .free := hy
      unfold Env.kindOf at hy
      rw [hsc] at hy
      rcases hy with hy | hy
      · exact absurd hy (noCell y)
      · obtain ⟨c, e, _⟩ := look hy
        exact ⟨c, e⟩
    · show b ≠ cenv.locals
      rw [hL]; exact Nat.ne_of_lt (hfp b hb).2
    · exact (hfp b hb).1.2.2.2.2.1 y c (cm e).1 z
    · rcases (hfp b hb).1.2.2.2.1 with z | z
      · exact I.ok.noex b o e z
      · exact absurd (Nat.lt_of_lt_of_le (Heap.lt_size e) (Nat.le_trans I.ok.bsz z)) (Nat.lt_irrefl _)
    · rcases List.mem_cons.mp (I.stkSub b z) with z | z
      · exact (hfp b hb).1.2.1 z
      · exact (hfp b hb).1.2.2.1 z
  have hnL : (h'.push go).Ns cenv.locals (fun y => if y = ".0" then some it else none) := by rw [hL]; exact hn.push _
  refine ⟨okB, rfl, hgb, Un.kept kp, ⟨_, hnL, fun i y av e1 e2 e3 => ?_⟩, fun y c e => ?_, ?_, fun y c e => ?_, fun p hp => ?_, I.hok.kept kp, by rw [wipe_length]; exact I.len⟩
  · obtain ⟨e2, hne⟩ := wipe_some e2
    have hfr : scope.names.lookup y = some .free := by
      have e3 : Vis cenv.scope y := e3
      rw [hsc] at e3
      have no : ∀ k', scope.names.lookup y = some k' → ¬ (k' = .local ∨ k' = .cell) := fun k' e hh => by
        rcases ok.own _ (PySem.mem_of_lookup e) hh with e' | e'
        · obtain ⟨p, hp, hpy⟩ := List.mem_map.mp e'
          have e3 := ok.ix p hp
          have : p.1 = y := hpy
          rw [this] at e3
          exact hne (List.mem_map.mpr ⟨p, hp, nodup_ix hN e3 e1⟩)
        · exact e' (List.mem_of_getElem? e1)
      rcases e3 with e3 | e3 | e3
      · exact absurd (.inl rfl) (no _ e3)
      · exact absurd e3 (noCell y)
      · exact e3
    obtain ⟨m, hnm, hl⟩ := I.loc
    have hvis : Vis X.env.scope y := (ok.free _ (PySem.mem_of_lookup hfr) rfl).elim (fun k => .inr (.inl k)) (fun k => .inr (.inr k))
    obtain ⟨w, r, q⟩ := hl i y av e1 e2 hvis
    refine ⟨w, r, .inr ⟨.inr ?_, ?_⟩⟩
    · show cenv.scope.names.lookup y = _
      rw [hsc]; exact hfr
    obtain ⟨c, h1, h2⟩ := look hfr
    rcases q with ⟨k, _⟩ | ⟨_, c', e', z⟩
    · have k : X.env.scope.names.lookup y = some .local := k
      rcases ok.free _ (PySem.mem_of_lookup hfr) rfl with k' | k' <;> rw [show X.env.scope.names.lookup y = _ from k'] at k <;> cases k
    · rw [h2] at e'; cases e'
      exact ⟨c, h1, z.keeps kp⟩
  · obtain ⟨h1, _⟩ := cm e
    obtain ⟨w, z⟩ := I.cell y c h1
    exact ⟨w, z.keeps kp⟩
  · show H cenv.locals = none
    rw [hL]; exact young _ (Nat.le_refl _)
  · exact I.freeC y c (cm e).1
  · rw [List.mem_singleton.mp (show p ∈ [(h'.objs.size, go)] from by simpa using hp)]
    refine ⟨hgp _, young _ (by rw [hsz]; exact Nat.le_succ _), ?_, ?_, hgo⟩
    · show h'.objs.size ≠ cenv.locals
      rw [hL, hsz]; exact Nat.succ_ne_self _
    · show h'.objs.size ∉ frs X.stack
      intro z
      have lt : ∀ b ∈ frs X.stack, b < s.heap.objs.size := fun b hb => by
        rcases List.mem_cons.mp (I.stkSub b hb) with e | hb
        · rw [e]; exact I.lt
        · obtain ⟨_, o, ho, _⟩ := I.ok.funs.mem hb
          exact Nat.lt_of_lt_of_le (Heap.lt_size ho) I.sz
      have := lt _ z
      rw [hsz] at this
      exact absurd this (Nat.not_lt_of_le (Nat.le_succ _))
end

/-! ### its run -/
/-- between two runs nothing of the heap changes but the consumer's own object, where it has one -/
def Sim (So : Option Addr) (s s'' : Shared) : Prop := s''.os = s.os ∧ AllBare s''.gens ∧ match So with
  | none => s''.heap = s.heap
  | some S => (∀ b o, b ≠ S → s.heap.get? b = some o → s''.heap.get? b = some o) ∧ ∃ o, s''.heap.get? S = some o ∧ ∀ v, o.data ≠ .cell v
/-- the consumer's own object is none of the generator's -/
def SApart (So : Option Addr) (X : Cx) (fp : List Addr) : Prop := ∀ S, So = some S → X.s_0.heap.objs.size ≤ S ∧ S ≠ X.env.locals ∧ S ∉ X.fs ∧ S ∉ fp ∧ (∀ x c, X.env.cells.lookup x = some c → c ≠ S) ∧ ∀ p ∈ X.pn, p.1 ≠ S
def SFree (So : Option Addr) (H : Hp) : Prop := ∀ S, So = some S → H S = none
def SKept (So : Option Addr) (s₀ s : Shared) : Prop := ∀ S, So = some S → s.heap.get? S = s₀.heap.get? S
def SThere (So : Option Addr) (s : Shared) : Prop := ∀ S, So = some S → ∃ o, s.heap.get? S = some o ∧ ∀ v, o.data ≠ .cell v
theorem Inv.sim {So : Option Addr} {X : Cx} {fp : List Addr} {σ : L2.St} {H : Hp} {s s'' : Shared} (ha : SApart So X fp) (hf : SFree So H) (I : Inv X [] σ H s) (h : Sim So s s'') : Inv X [] σ H s'' := by
  obtain ⟨hp, g, d, t, os⟩ := s''
  obtain ⟨h2, h3, h1⟩ := h
  have h2 : os = s.os := h2
  subst h2
  cases So with
  | none =>
    have h1 : hp = s.heap := h1
    subst h1
    exact ⟨I.ok, I.os, h3, I.base, I.loc, I.cell, I.free, I.freeC, I.pin, I.hok, I.len⟩
  | some S =>
    obtain ⟨z3, _⟩ := h1
    obtain ⟨a1, a2, a3, a4, a5, a6⟩ := ha S rfl
    have hS0 := hf S rfl
    have nt : ∀ b u, H b = some u → b ≠ S := fun b u q hb => by rw [hb, hS0] at q; cases q
    have nc : ∀ b, b ∉ [S] → b ≠ S := fun b hb e => hb (by rw [e]; exact List.mem_singleton.mpr rfl)
    refine I.step (g' := g) (t' := t) (d' := d) (ch := [S]) (fun b hb => ?_)
      (fun b ob _ _ hc q _ => z3 b ob (nc b hc) q) (fun b ob _ _ hc q _ => ⟨ob.slots, z3 b ob (nc b hc) q⟩) (fun _ _ _ _ n => n) (fun b ob hc q => ⟨ob, z3 b ob (nc b hc) q⟩)
      (fun _ _ q => q) (fun _ _ _ q => q) (fun b ps q => ⟨#[], by rw [q]; simp⟩) (fun m hm => ?_) (fun b u q => ?_) h3
    · rw [List.mem_singleton.mp hb]
      exact ⟨.inr a1, a2, a5, fun p hp => a6 p (by simpa using hp)⟩
    · obtain ⟨ob, es, ep, ho, r⟩ := hm
      exact ⟨ob, es, ep, z3 _ ob (Ne.symm a2) ho, r⟩
    · refine (I.hok b u q).stay (fun c v hc y => z3 c v ?_ y) (fun _ y => y) fun _ _ y => y
      rcases hc with y | y
      · rw [y]; exact nt b u q
      · exact nt c _ y
/-- what is wanted of an item: how many follow, the item, the heap, that one may go on -/
abbrev TZ := Nat → V → Hp → Prop → Prop
def GYZ (So : Option Addr) (X : Cx) (σ : L2.St) (Z : TZ) : Protocol := fun n s₀ v s kap => ∃ y H C, RelV y v ∧ Inv X [] σ H s ∧ SFree So H ∧ SKept So s₀ s ∧ Z n y H C ∧ (C → ∀ s'', Sim So s s'' → kap (.send .none) s'')
def GRZ (So : Option Addr) (X : Cx) (σ : L2.St) (Fin : Hp → Prop) : GenEnd := fun n s₀ r s => r = .ok .next ∧ n = 0 ∧ ∃ H, Inv X [] σ H s ∧ SFree So H ∧ SKept So s₀ s ∧ Fin H
/-- a turn -/
def GTurn (J : It) (g : TG) (tt : TT) (te : TE) (σ : L2.St) (vs : List Nat) (Z : TZ) (Fin : Hp → Prop) (W : Nat → Nat → Nat → Hp → Prop) : Prop :=
  ∀ i m r H, W i m r H → (J.stop i H ∧ m = 0 ∧ Fin H) ∨
    (J.go i H ∧ ∀ x H', J.yld i H x H' → g x σ H' fun σ2 H2 => wipe σ2 vs = σ ∧ tt σ2 H2 fun b H3 =>
      if b = true then ∃ m', m = m' + 1 ∧ te σ2 H3 fun y H4 => Z m' y H4 (∃ r', W (i + 1) m' r' H4) else ∃ r', r' < r ∧ W (i + 1) m r' H3)
theorem gseg_loop {So : Option Addr} {X : Cx} {A : Around} {elt tg iter : Expr} {ifs : List Expr} {scope : Scope} {pos : Pos} {it : Addr} {fp : List Addr} {tn : Nat → Heap → Prop} {J : It} {g : TG} {tt : TT} {te : TE} {σ : L2.St} {vs : List Nat} {Z : TZ} {Fin : Hp → Prop} {W : Nat → Nat → Nat → Hp → Prop}
    (hA : A.over (.compLoop (.GeneratorExp elt [⟨tg, iter, ifs, 0⟩] scope pos) 0 (.ref it) .none X.env) [] = X.A) (hc : X.calm = true) (hco : X.env.scope.isCoroutine = false) (hxe : X.xe = fun _ _ => False)
    (T : Turn X.prog X.w X.K tg J fp it tn) (hfp : ∀ b ∈ fp, b ∈ X.ex) (hpn : ∀ p ∈ X.pn, p.1 ∉ fp) (hSo : SApart So X fp) (pg : PG X tg g) (pt : PTs X ifs tt) (pe : PE X elt te) (turn : GTurn J g tt te σ vs Z Fin W) :
    ∀ (m r i : Nat) (H : Hp) (s₀ s : Shared), W i m r H → Inv X [] σ H s → SFree So H → SKept So s₀ s → SThere So s → tn i s.heap → (∀ b ∈ fp, H b = none) →
      Seg (model X.prog X.w) A (GRZ So X σ Fin) (GYZ So X σ Z) m s₀ (.compLoop (.GeneratorExp elt [⟨tg, iter, ifs, 0⟩] scope pos) 0 (.ref it) .none X.env)
        ((model X.prog X.w).den (.compLoop (.GeneratorExp elt [⟨tg, iter, ifs, 0⟩] scope pos) 0 (.ref it) .none X.env)) [] s := by
  have nov : ∀ {α : Type} {t : Sem α} {Q Q' : α → Shared → Prop} {E : Value → Shared → Prop} {s : Shared}, wpAny (model X.prog X.w) X.A t Q X.xe s → (∀ a s, Q a s → Q' a s) → wpAny (model X.prog X.w) X.A t Q' E s := by
    intro α t Q Q' E s h hq
    rw [hxe] at h
    exact wpAny_mono h hq fun _ _ z => False.elim z
  intro m
  induction m using Nat.strongRecOn with
  | ind m ihm =>
  intro r
  induction r using Nat.strongRecOn with
  | ind r ihr =>
  intro i H s₀ s w I0 hSf hSk hSt st hn
  have fpo : ∀ {H' : Hp} {s' : Shared} {pins : List (Addr × Obj)}, Inv X pins σ H' s' → (∀ p ∈ pins, p.1 ∉ fp) → (∀ b ∈ fp, H' b = none) → ∀ b ∈ fp, FpOk X pins H' b := fun {H' s' pins} I' hp hn b hb =>
    ⟨hn b hb, (I'.ok.exf b (hfp b hb)).1, I'.ok.exfs b (hfp b hb), .inl (hfp b hb), fun x c e => (I'.ok.exf b (hfp b hb)).2 x c e, fun p hp' z => by
      rcases List.mem_append.mp hp' with y | y
      · exact hpn p y (by rw [z]; exact hb)
      · exact hp p y (by rw [z]; exact hb)⟩
  generalize hpl : pinsAt So.toList s.heap = pl
  have hplS : ∀ p ∈ pl, So = some p.1 ∧ s.heap.get? p.1 = some p.2 := fun p hp => by
    rw [← hpl] at hp
    obtain ⟨a, b⟩ := of_pinsAt hp
    cases So with
    | none => simp at a
    | some S =>
      have a : p.1 ∈ [S] := a
      exact ⟨by rw [List.mem_singleton.mp a], b⟩
  have hplf : ∀ p ∈ pl, p.1 ∉ fp := fun p hp => (hSo p.1 (hplS p hp).1).2.2.2.1
  have I : Inv X pl σ H s := by
    rw [← hpl]
    refine Inv.pinned (pins := []) I0 (fun b hb => ?_) fun b hb => ?_
    · cases So with
      | none => simp at hb
      | some S =>
        have e : b = S := by simpa using hb
        subst e
        obtain ⟨a1, a2, a3, a4, a5, a6⟩ := hSo b rfl
        exact ⟨hSf b rfl, a2, a3, .inr a1, a5, fun p hp => a6 p (by simpa using hp)⟩
    · cases So with
      | none => simp at hb
      | some S =>
        have e : b = S := by simpa using hb
        subst e
        exact hSt b rfl
  -- behind anything that keeps the pins
  have keptS : ∀ {pins : List (Addr × Obj)} {σ' : L2.St} {H' : Hp} {s' : Shared}, Inv X (pl ++ pins) σ' H' s' → SFree So H' ∧ SKept So s₀ s' ∧ SThere So s' := fun {pins σ' H' s'} J => by
    have key : ∀ S, So = some S → H' S = none ∧ s'.heap.get? S = s.heap.get? S := fun S e => by
      obtain ⟨o, ho, _⟩ := hSt S e
      have hm : (S, o) ∈ pl := by
        rw [← hpl]
        exact mem_pinsAt (by rw [e]; simp) ho
      obtain ⟨h1, h2, _⟩ := J.pin (S, o) (List.mem_append_right _ (List.mem_append_left _ hm))
      exact ⟨h2, h1.trans ho.symm⟩
    refine ⟨fun S e => (key S e).1, fun S e => (key S e).2.trans (hSk S e), fun S e => ?_⟩
    obtain ⟨o, ho, hd⟩ := hSt S e
    exact ⟨o, (key S e).2.trans ho, hd⟩
  show Seg _ A _ _ _ s₀ _ ((compTurn (.GeneratorExp elt [⟨tg, iter, ifs, 0⟩] scope pos) 0 (.ref it) .none X.env).onRaise (leaving X.env)) [] s
  rw [compTurn_gen, Sem.onRaise_eq_wrap]
  refine seg_bind_wrap (wpAny_standAt ?_)
  rcases turn i m r H w with ⟨stop, hm, fin⟩ | ⟨go, step⟩
  · refine seg_bind_wrap ?_
    rw [hA]
    have td := T.done X rfl rfl rfl hc i pl s σ H (fun _ _ => False) I (fpo I hplf hn) st stop
    refine thnF td fun res s6 ⟨hr, I6⟩ => ?_
    subst hr
    obtain ⟨k1, k2, _⟩ := keptS (pins := []) (by rw [List.append_nil]; exact I6)
    exact seg_end (.ok .next) ⟨rfl, hm, H, Inv.unpinned (pins := []) I6, k1, k2, fin⟩
  · refine seg_bind_wrap ?_
    rw [hA]
    have ti := T.item X rfl rfl rfl hc i pl s σ H (fun _ _ => False) I (fpo I hplf hn) st go
    refine thnF ti fun res s6 ⟨u, hr, h6⟩ => ?_
    subst hr
    refine seg_bind_wrap ?_
    rw [hA]
    refine thnF h6 fun _ s7 ⟨x, H7, I7, r7, y7, st7, n7⟩ => ?_
    have I7' := I7.pinned (fpo I7 hplf n7) (T.obj _ _ st7)
    have q7 := step x H7 y7
    refine seg_bind_wrap ?_
    rw [hA]
    refine nov (pg.run _ s7 σ H7 x u _ I7' r7 q7) fun _ s8 ⟨σ8, H8, I8, hw8, q8⟩ => ?_
    refine seg_bind_wrap ?_
    rw [hA]
    refine nov (pt.run _ s8 σ8 H8 _ I8 q8) fun b s9 ⟨H9, I9, q9⟩ => ?_
    have fin : ∀ {s' : Shared} {H' : Hp}, Inv X (pl ++ pinsAt fp s7.heap) σ8 H' s' → Inv X [] σ H' s' ∧ tn (i + 1) s'.heap ∧ ∀ b ∈ fp, H' b = none := fun {s' H'} I' => by
      have pin' : ∀ b ∈ fp, ∀ o, s7.heap.get? b = some o → s'.heap.get? b = some o ∧ H' b = none := fun b hb o e =>
        let z := I'.pin (b, o) (List.mem_append_right _ (List.mem_append_right _ (mem_pinsAt hb e)))
        ⟨z.1, z.2.1⟩
      have hl : σ.length = σ8.length := by rw [← hw8, wipe_length]
      refine ⟨(Inv.unpinned (pins := []) (pl := pl ++ pinsAt fp s7.heap) (by rw [List.nil_append]; exact I')).weak hl (fun j v e => ?_), T.keep _ _ _ st7 fun b hb o e => (pin' b hb o e).1, fun b hb => ?_⟩
      · rw [← hw8] at e
        exact (wipe_some e).1
      · obtain ⟨o, e, _⟩ := T.obj _ _ st7 b hb
        exact (pin' b hb o e).2
    cases b with
    | false =>
      simp only [Bool.false_eq_true, if_false] at q9 ⊢
      obtain ⟨r', hr', w'⟩ := q9
      obtain ⟨J1, J2, J3⟩ := fin I9
      obtain ⟨k1, k2, k3⟩ := keptS I9
      exact seg_again rfl (ihr r' hr' (i + 1) H9 s₀ s9 w' J1 k1 k2 k3 J2 J3)
    | true =>
      simp only [if_true] at q9 ⊢
      obtain ⟨m', rfl, q9⟩ := q9
      have hy : ∀ v, yieldOut X.env v = yieldValue v := fun v => by simp only [yieldOut, hco, Bool.false_eq_true, if_false]
      simp only [hy]
      rw [Sem.bind_eq_wrap', Sem.bind_eq_wrap', Sem.wrap_wrap, Sem.wrap_wrap]
      refine seg_wrap ?_
      rw [hA]
      refine nov (pe.run _ s9 σ8 H9 _ I9 q9) fun v s10 ⟨y, H10, I10, r10, z⟩ => ?_
      obtain ⟨J1, J2, J3⟩ := fin I10
      obtain ⟨k1, k2, k3⟩ := keptS I10
      refine seg_at (seg_yield rfl rfl rfl ⟨y, H10, _, r10, J1, k1, k2, z, fun ⟨r', w'⟩ s'' hs => ?_⟩)
      refine seg_again rfl (ihm m' (Nat.lt_succ_self _) r' (i + 1) H10 s'' s'' w' (Inv.sim hSo k1 J1 hs) k1 (fun _ _ => rfl) (fun S e => ?_) ?_ J3)
      · subst e
        exact hs.2.2.2
      · cases So with
        | none => rw [show s''.heap = s10.heap from hs.2.2]; exact J2
        | some S => exact T.keep _ _ _ J2 fun b hb o e => hs.2.2.1 b o (fun z => (hSo S rfl).2.2.2.1 (by rw [← z]; exact hb)) e
theorem gseg_start {X : Cx} {A : Around} {elt tg iter : Expr} {ifs : List Expr} {scope : Scope} {pos : Pos} {it : Addr} {fp : List Addr} {tn : Nat → Heap → Prop} {J : It} {R : GenEnd} {Y : Protocol} {m : Nat} {s₀ s : Shared}
    (T : Turn X.prog X.w X.K tg J fp it tn) (st : tn 0 s.heap)
    (loop : Seg (model X.prog X.w) A R Y m s₀ (.compLoop (.GeneratorExp elt [⟨tg, iter, ifs, 0⟩] scope pos) 0 (.ref it) .none X.env)
        ((model X.prog X.w).den (.compLoop (.GeneratorExp elt [⟨tg, iter, ifs, 0⟩] scope pos) 0 (.ref it) .none X.env)) [] s) :
    Seg (model X.prog X.w) A R Y m s₀ (.compStart (.GeneratorExp elt [⟨tg, iter, ifs, 0⟩] scope pos) 0 (.ref it) .none X.env)
        ((model X.prog X.w).den (.compStart (.GeneratorExp elt [⟨tg, iter, ifs, 0⟩] scope pos) 0 (.ref it) .none X.env)) [] s := by
  show Seg _ A _ _ _ s₀ _ ((compStart (.GeneratorExp elt [⟨tg, iter, ifs, 0⟩] scope pos) 0 (.ref it) .none X.env).onRaise (leaving X.env)) [] s
  unfold compStart
  rw [Sem.onRaise_eq_wrap]
  show Seg _ A _ _ _ s₀ _ ((ask >>= _).wrap _ _ _ _) [] s
  refine seg_bind_wrap (wpAny_askSetting ?_)
  split
  · exact seg_again rfl loop
  · first
      | exact seg_bind_wrap (wpAny_rule (seg_bind_wrap (wpAny_standAt (seg_bind_wrap (T.self _ 0 s _ _ st (seg_again rfl loop))))))
      | (refine seg_bind_wrap (wpAny_rule ?_); show Seg _ A _ _ _ s₀ _ ((standAt iter.pos >>= _).wrap _ _ _ _) [] s; exact seg_bind_wrap (wpAny_standAt (seg_bind_wrap (T.self _ 0 s _ _ st (seg_again rfl loop)))))
end DL

namespace DL
open PySem PySem.Spec PyProof.Rows L2 GxR GenW
/-- the around of a generator's frame that a built-in function wakes -/
def GA (A : Around) (e : Expr) (it : Addr) (cenv : Env) : Around := (A.in1.in1).over (.compLoop e 0 (.ref it) .none cenv) []
section
variable {A : Around} {elt tg iter : Expr} {ifs : List Expr} {scope : Scope} {pos : Pos} {it : Addr} {cenv : Env} {k : Nat}
theorem GA_hd : (GA A (.GeneratorExp elt [⟨tg, iter, ifs, 0⟩] scope pos) it cenv).handled = A.handled := rfl
theorem GA_frames {l : List Env} (h : A.frames = some l) : (GA A (.GeneratorExp elt [⟨tg, iter, ifs, 0⟩] scope pos) it cenv).frames = some (cenv :: l) := by
  show pushEnvs [cenv] (pushEnvs [] A.frames) = _
  rw [h]
  rfl
theorem GA_depth : (GA A (.GeneratorExp elt [⟨tg, iter, ifs, 0⟩] scope pos) it cenv).depth = A.depth + 1 := rfl
theorem GA_units : (GA A (.GeneratorExp elt [⟨tg, iter, ifs, 0⟩] scope pos) it cenv).units = A.units + 5 := rfl
theorem Room.gen (r : Room (k + 1) A) : Room k (GA A (.GeneratorExp elt [⟨tg, iter, ifs, 0⟩] scope pos) it cenv) :=
  ⟨r.hd, by have := r.dp; rw [GA_depth]; omega, by have := r.un; rw [GA_units]; omega⟩
end
/-- a generator that has m items more, at most -/
def Live (So : Option Addr) (X : Cx) (A' : Around) (σ : L2.St) (Z : TZ) (Fin : Hp → Prop) (ga : Addr) (g m : Nat) (s : Shared) : Prop :=
  s.heap.IsGen ga g ∧ s.heap.NoLimit ∧ AllBare s.gens ∧ (∀ S, So = some S → S ≠ ga ∧ S ≠ cStatics) ∧ ∃ gs, s.gens[g]? = some gs ∧ ∀ s'', Sim So s s'' → gs.Goes (model X.prog X.w) A' (GRZ So X σ Fin) (GYZ So X σ Z) m (.send .none) s''
theorem setGen_bare {s : Shared} {g : Nat} {x : GenState} (h : AllBare s.gens) (hx : x.bare = true) : AllBare (s.setGen g x).gens := by
  intro y hy
  have hy : y ∈ s.gens.setIfInBounds g x := hy
  obtain ⟨i, hi, rfl⟩ := Array.mem_iff_getElem.mp hy
  have hi' : i < s.gens.size := by simpa using hi
  by_cases e : g = i
  · subst e
    rw [Array.getElem_setIfInBounds_self]
    exact hx
  · have e2 : (s.gens.setIfInBounds g x)[i] = s.gens[i] := by rw [Array.getElem_setIfInBounds hi']; rw [if_neg e]
    rw [e2]
    exact h _ (Array.getElem_mem _)
theorem Sim.gens {So : Option Addr} {s : Shared} {g : Nat} {x : GenState} (ht : SThere So s) (hb : AllBare (s.setGen g x).gens) : Sim So s (s.setGen g x) := by
  refine ⟨rfl, hb, ?_⟩
  cases So with
  | none => rfl
  | some S => exact ⟨fun b o _ e => e, ht S rfl⟩
theorem Sim.trans {So : Option Addr} {s s' s'' : Shared} (a : Sim So s s') (b : Sim So s' s'') : Sim So s s'' := by
  refine ⟨b.1.trans a.1, b.2.1, ?_⟩
  cases So with
  | none => exact (show s''.heap = s'.heap from b.2.2).trans a.2.2
  | some S => exact ⟨fun x o h e => b.2.2.1 x o h (a.2.2.1 x o h e), b.2.2.2⟩
theorem live_frame {So : Option Addr} {X : Cx} {A' : Around} {σ : L2.St} {Z : TZ} {Fin : Hp → Prop} {ga : Addr} {g m : Nat} {s s' : Shared} (h : Live So X A' σ Z Fin ga g m s) (hs : Sim So s s') (hg : s'.gens = s.gens) : Live So X A' σ Z Fin ga g m s' := by
  obtain ⟨l1, l2, l3, l4, gs, l5, l6⟩ := h
  refine ⟨?_, ?_, hs.2.1, l4, gs, by rw [hg]; exact l5, fun s'' z => l6 s'' (hs.trans z)⟩
  · cases So with
    | none => rw [show s'.heap = s.heap from hs.2.2]; exact l1
    | some S =>
      obtain ⟨o, nm, qn, ho, r⟩ := l1
      exact ⟨o, nm, qn, hs.2.2.1 ga o (Ne.symm (l4 S rfl).1) ho, r⟩
  · cases So with
    | none => rw [show s'.heap = s.heap from hs.2.2]; exact l2
    | some S =>
      obtain ⟨mc, hns, hnn⟩ := l2
      exact ⟨mc, hns.at' fun o e => hs.2.2.1 cStatics o (Ne.symm (l4 S rfl).2) e, hnn⟩
theorem live_next {So : Option Addr} {X : Cx} {A : Around} {σ : L2.St} {Z : TZ} {Fin : Hp → Prop} {fp : List Addr} {ga : Addr} {go : Obj} {g m : Nat} {s : Shared} {E : Value → Shared → Prop}
    (hSo : SApart So X fp) (hh : A.handled = none) (hroom : A.depth < recursionLimit) (hpn : (ga, go) ∈ X.pn) (hgo : ∀ h : Heap, h.get? ga = some go → h.IsGen ga g) (h : Live So X A.in1 σ Z Fin ga g m s) (hS : SThere So s) :
    wpAny (model X.prog X.w) A (pyNext (.ref ga)) (fun r s' => (r = none ∧ m = 0 ∧ ∃ H, Inv X [] σ H s' ∧ SKept So s s' ∧ Fin H) ∨
      ∃ v y H C, r = some v ∧ RelV y v ∧ Inv X [] σ H s' ∧ SFree So H ∧ SKept So s s' ∧ Z (m - 1) y H C ∧ (C → ∃ m', m = m' + 1 ∧ Live So X A.in1 σ Z Fin ga g m' s')) E s := by
  obtain ⟨hg, hl, hb, hSn, gs, hgs, hgo'⟩ := h
  refine wpAny_gsz (n := s.gens.size) (Nat.le_refl _) ?_
  refine wpAny_pyNext_genexpQ (n := m) (P := fun n s₀ s₁ => n = 0 ∧ ∃ H, Inv X [] σ H s₁ ∧ SFree So H ∧ SKept So s₀ s₁ ∧ Fin H) (Y := GYZ So X σ Z) hh hl hroom hg hgs ?_ (fun v s₁ gs' hb' hv hsz => ?_) (fun s₁ hp h' hk hsz => ?_)
  · exact hgo' (s.setGen g .running) (Sim.gens hS (setGen_bare hb rfl))
  · obtain ⟨y, H, C, r, I, hf, hk, z, cont⟩ := hv
    have bare' := setGen_bare (g := g) (x := gs') I.bare hb'
    have hS1 : SThere So s₁ := fun S e => by
      obtain ⟨o, ho, hd⟩ := hS S e
      exact ⟨o, (hk S e).trans ho, hd⟩
    have I' : Inv X [] σ H (s₁.setGen g gs') := Inv.sim hSo hf I (Sim.gens hS1 bare')
    refine .inr ⟨v, y, H, C, rfl, r, I', hf, hk, z, fun c => ?_⟩
    have hlt : g < s.gens.size := (Array.getElem?_eq_some_iff.mp hgs).1
    have hgs' : (s₁.setGen g gs').gens[g]? = some gs' := by
      have hlt' : g < s₁.gens.size := by
        have h1 := GenW.setGen_size s₁ g gs'
        rw [h1] at hsz
        exact Nat.lt_of_lt_of_le hlt hsz
      show (s₁.gens.setIfInBounds g gs')[g]? = some gs'
      rw [Array.getElem?_setIfInBounds_self_of_lt hlt']
    cases m with
    | zero => exact absurd (cont c (s₁.setGen g gs') (Sim.gens hS1 bare')) (fun z => z)
    | succ m' =>
      refine ⟨m', rfl, hgo _ (I'.pin (ga, go) (List.mem_append_left _ hpn)).1, I'.nolimit, bare', hSn, gs', hgs', fun s'' hs => ?_⟩
      exact cont c s'' (Sim.trans (Sim.gens hS1 bare') hs)
  · obtain ⟨hm, H, I, hf, hk2, f⟩ := hp
    have hS1 : SThere So s₁ := fun S e => by
      obtain ⟨o, ho, hd⟩ := hS S e
      exact ⟨o, (hk2 S e).trans ho, hd⟩
    refine .inl ⟨rfl, hm, H, ?_, fun S e => ?_, f⟩
    · have I2 : Inv X [] σ H (s₁.setGen g .finished) := Inv.sim hSo hf I (Sim.gens hS1 (setGen_bare I.bare rfl))
      exact I2.kept (h' := h') (t' := (s₁.setGen g .finished).toks) hk
    · obtain ⟨o, ho, _⟩ := hS S e
      have e1 : s₁.heap.get? S = some o := (hk2 S e).trans ho
      show h'.get? S = s.heap.get? S
      rw [ho]
      exact hk S o e1

section
variable {prog : Program} {w : World} {A : Around} {R : Result → Shared → Prop} {I : Addr}
theorem all_loop (Lv : Nat → Shared → Prop)
    (step : ∀ m s E, Lv m s → wpAny (model prog w) A.in1 (pyNext (.ref I)) (fun r s' => (r = none ∧ R (.ok (.ret (.bool true))) s') ∨ ∃ k, r = some (.bool k) ∧ if k = true then ∃ m', m' < m ∧ Lv m' s' else R (.ok (.ret (.bool false))) s') E s) :
    ∀ (m : Nat) (s : Shared), Lv m s → codeAny (model prog w) A (.builtin "all.loop" ⟨[.ref I], []⟩) R s := by
  intro m
  induction m using Nat.strongRecOn with
  | ind m ih =>
  intro s hs
  refine codeAny_builtin F.entry_all_loop ?_
  rw [Around.under_plainId F.plain_all_loop _]
  show wpAny _ A.in1 (pyNext (.ref I) >>= _) _ _ s
  refine wpAny_bind (wpAny_mono (step m s _ hs) (fun r s' h => ?_) fun _ _ z => z)
  rcases h with ⟨rfl, h⟩ | ⟨k, rfl, h⟩
  · exact wpAny_bind (wpAny_rule (wpAny_pure h))
  · refine wpAny_bind (wpAny_holding (wpAny_truthy_bool ?_))
    refine wpAny_bind (wpAny_letGo ?_)
    cases k with
    | true =>
      simp only [if_true] at h ⊢
      obtain ⟨m', hm, hl⟩ := h
      exact wpAny_pure ⟨plainId_quiet F.plain_all_loop _, ih m' hm s' hl⟩
    | false =>
      simp only [Bool.false_eq_true, if_false] at h ⊢
      exact wpAny_bind (wpAny_rule (wpAny_pure h))
theorem any_loop (Lv : Nat → Shared → Prop)
    (step : ∀ m s E, Lv m s → wpAny (model prog w) A.in1 (pyNext (.ref I)) (fun r s' => (r = none ∧ R (.ok (.ret (.bool false))) s') ∨ ∃ k, r = some (.bool k) ∧ if k = true then R (.ok (.ret (.bool true))) s' else ∃ m', m' < m ∧ Lv m' s') E s) :
    ∀ (m : Nat) (s : Shared), Lv m s → codeAny (model prog w) A (.builtin "any.loop" ⟨[.ref I], []⟩) R s := by
  intro m
  induction m using Nat.strongRecOn with
  | ind m ih =>
  intro s hs
  refine codeAny_builtin F.entry_any_loop ?_
  rw [Around.under_plainId F.plain_any_loop _]
  show wpAny _ A.in1 (pyNext (.ref I) >>= _) _ _ s
  refine wpAny_bind (wpAny_mono (step m s _ hs) (fun r s' h => ?_) fun _ _ z => z)
  rcases h with ⟨rfl, h⟩ | ⟨k, rfl, h⟩
  · exact wpAny_bind (wpAny_rule (wpAny_pure h))
  · refine wpAny_bind (wpAny_holding (wpAny_truthy_bool ?_))
    refine wpAny_bind (wpAny_letGo ?_)
    cases k with
    | true =>
      simp only [if_true] at h ⊢
      exact wpAny_bind (wpAny_rule (wpAny_pure h))
    | false =>
      simp only [Bool.false_eq_true, if_false] at h ⊢
      obtain ⟨m', hm, hl⟩ := h
      exact wpAny_pure ⟨plainId_quiet F.plain_any_loop _, ih m' hm s' hl⟩
end

/-- the reading of a generator expression that is made -/
def tGen (P : Addr) (wi : TI) (g : TG) (tt : TT) (te : TE) (vs : List Nat) (Z : TZ) (Fin : Hp → Prop) (Bg : Nat → Prop) (σ : L2.St) (H : Hp) : Prop :=
  wi σ H fun J H1 => TabG H1 P ∧ ∀ H2, Tabbed P H1 H2 → ∃ W : Nat → Nat → Nat → Hp → Prop, (∃ m r, Bg m ∧ W 0 m r H2) ∧ GTurn J g tt te (wipe σ vs) vs Z Fin W
section
variable {X : Cx} {pins : List (Addr × Obj)} {σ : L2.St} {H : Hp} {s : Shared}
/-- what the consumer has: a live generator at ga, its own object's place S -/
structure GReady (So : Option Addr) (X : Cx) (pins : List (Addr × Obj)) (σ : L2.St) (Z : TZ) (Fin : Hp → Prop) (ga : Addr) (Lv : Nat → Shared → Prop) : Prop where
  self : ∀ m s (Q : Value → Shared → Prop) E, Lv m s → Q (.ref ga) s → wpAny (model X.prog X.w) X.A.in1 (pyIter (.ref ga)) Q E s
  bare : ∀ m s, Lv m s → AllBare s.gens
  frame : ∀ m s s', Lv m s → Sim So s s' → s'.gens = s.gens → Lv m s'
  next : ∀ m s E, Lv m s → SThere So s → wpAny (model X.prog X.w) X.A.in1 (pyNext (.ref ga)) (fun r s' => (r = none ∧ m = 0 ∧ ∃ H, Inv X pins σ H s' ∧ SKept So s s' ∧ Fin H) ∨
      ∃ v y H C, r = some v ∧ RelV y v ∧ Inv X pins σ H s' ∧ SFree So H ∧ SKept So s s' ∧ Z (m - 1) y H C ∧ (C → ∃ m', m = m' + 1 ∧ Lv m' s')) E s

theorem gen_make {c P : Addr} {elt tg iter : Expr} {ifs : List Expr} {scope : Scope} {own : List (Str × Nat)} {gpos : Pos} {wi : TI} {g : TG} {tt : TT} {te : TE} {k : Nat} {Z : TZ} {Fin : Hp → Prop} {Bg : Nat → Prop} {Q' : Value → Shared → Prop} (own? : Bool)
    (hr : Room k X.A) (hc : X.calm = true) (hN : X.N.Nodup) (TB : TabB X.base X.mg c P) (hcode : X.env.code = .ref c) (ok : BlkOk X.N X.env.scope scope own) (gk : GOk scope) (hi : PI X tg iter wi)
    (hg : ∀ (s : Shared) (H : Hp) (C : Addr) (code : Value) (it : Addr) (fp : List Addr) (pn : List (Addr × Obj)),
      PG (gcx X (GA X.A (.GeneratorExp elt [⟨tg, iter, ifs, 0⟩] scope gpos) it (genEnv scope (cloFrom X.env.cells scope.names []) C code builtinsNs X.env)) s H (genEnv scope (cloFrom X.env.cells scope.names []) C code builtinsNs X.env) fp pn) tg g)
    (ht : ∀ (s : Shared) (H : Hp) (C : Addr) (code : Value) (it : Addr) (fp : List Addr) (pn : List (Addr × Obj)),
      PTs (gcx X (GA X.A (.GeneratorExp elt [⟨tg, iter, ifs, 0⟩] scope gpos) it (genEnv scope (cloFrom X.env.cells scope.names []) C code builtinsNs X.env)) s H (genEnv scope (cloFrom X.env.cells scope.names []) C code builtinsNs X.env) fp pn) ifs tt)
    (he : ∀ (s : Shared) (H : Hp) (C : Addr) (code : Value) (it : Addr) (fp : List Addr) (pn : List (Addr × Obj)),
      PE (gcx X (GA X.A (.GeneratorExp elt [⟨tg, iter, ifs, 0⟩] scope gpos) it (genEnv scope (cloFrom X.env.cells scope.names []) C code builtinsNs X.env)) s H (genEnv scope (cloFrom X.env.cells scope.names []) C code builtinsNs X.env) fp pn) elt te)
    (hs : ∀ v, genFold iter X.env v = pure v) (I : Inv X pins σ H s) (h : tGen P wi g tt te (own.map (·.2)) Z Fin Bg σ H)
    (hQ : ∀ ga Lv m s5, Bg m → GReady (if own? then some s5.heap.objs.size else none) X pins σ Z Fin ga Lv → Lv m s5 → Q' (.ref ga) s5) :
    wpAny (model X.prog X.w) X.A (eval (.GeneratorExp elt [⟨tg, iter, ifs, 0⟩] scope gpos) X.env) Q' X.xe s := by
  have hfree : ∀ y ∈ scope.names, y.2 = .free → ∃ c, X.env.cells.lookup y.1 = some c := fun y hy e => by
    rcases ok.free y hy e with k | k
    · exact I.ok.has _ (.inl k)
    · exact I.ok.has _ (.inr k)
  refine wpAny_GeneratorExp_make gk.co (closure_ok hfree) gk.cell gk.dot ok.kind hr.depth ?_ hs
  refine thn (hi.run pins s σ H _ I h) fun xv s1 hx => thn hx fun itv s2 h2 => ?_
  obtain ⟨it, fp, tn, J, H1, rfl, I1, T, st1, f1, hTab, q⟩ := h2
  obtain ⟨ps, hP, ht0⟩ := hTab
  refine ⟨I1.nolimit, ?_⟩
  have hPs : s2.heap.get? P = some { cls := .none, data := .fields ps } := I1.hok P _ hP
  have cd : PySem.W.CodeHd s2.heap c P := TB.code.keeps fun b u e => I1.bk b u e
  have cont : ∀ (code : Value) (h3 : Heap) (tk : Nat) (ps' : Array Value), Heap.ExtBut P s2.heap h3 → s2.heap.objs.size ≤ h3.objs.size → h3.get? P = some { cls := .none, data := .fields ps' } → (∃ more, ps' = ps ++ more) → TriplesOk ps'.toList →
      wpAny (model X.prog X.w) X.A (builtinsFor X.env.globals X.env.builtins) (fun bi s₄ => ∀ h', h'.Ns s₄.heap.objs.size (fun y => if y = ".0" then some (.ref it) else none) → Heap.SameBut s₄.heap.objs.size (s₄.heap.push { cls := .type "frame", data := .dict #[] }) h' →
          Q' (.ref h'.objs.size) { s₄ with
            gens := s₄.gens.push (.fresh (.compStart (.GeneratorExp elt [⟨tg, iter, ifs, 0⟩] scope gpos) 0 (.ref it) .none (genEnv scope (cloFrom X.env.cells scope.names []) s₄.heap.objs.size code bi X.env))),
            toks := s₄.toks + 1 + 1 + 1,
            heap := h'.push { cls := .type "generator", data := .fields #[.int s₄.gens.size 0, .str "<genexpr>" (s₄.toks + 1), .str (X.env.qual ++ "<genexpr>") (s₄.toks + 1 + 1)] } }) X.xe { s2 with heap := h3, toks := tk } := by
    intro code h3 tk ps' hx hsz hP3 hmore ht3
    obtain ⟨bm, ob, e1, e2, e3, e4, e5, e6, e7, e8⟩ := TB.bm
    have keep3 : ∀ b u, b ≠ P → s2.heap.get? b = some u → h3.get? b = some u := fun b u hb e => hx b u hb e
    refine wpAny_builtinsFor (m := X.mg) (by rw [I1.ok.glob]; exact (I1.mod.glob.keeps I1.bk).extBut hx TB.gP) e1 e2 (keep3 _ _ e4 (I1.bk _ _ e5)) e6 e7 e8 ?_
    obtain ⟨more, rfl⟩ := hmore
    have I3 := inv_tab (more := more) (h' := h3) (g' := s2.gens) (d' := s2.drawn) (t' := tk) I1 hP (fun b u hb e => keep3 b u hb e) hP3 I1.bare
    have e3 : ({ s2 with heap := h3, gens := s2.gens, drawn := s2.drawn, toks := tk } : Shared) = { s2 with heap := h3, toks := tk } := rfl
    rw [e3] at I3
    generalize hs3 : ({ s2 with heap := h3, toks := tk } : Shared) = s3 at I3 ⊢
    have hh3 : s3.heap = h3 := by rw [← hs3]
    generalize hH2 : upd H1 P (.tbl (ps ++ more)) = H2 at I3
    have hTabd : Tabbed P H1 H2 := by
      rw [← hH2]
      exact ⟨⟨ps ++ more, upd_same, ht3⟩, fun b hb => upd_ne hb⟩
    obtain ⟨W, ⟨m, r, hB, w0⟩, turn⟩ := q H2 hTabd
    have nP : ∀ b ∈ fp, b ≠ P := fun b hb z => by
      have := (f1 b hb).1
      rw [z, hP] at this
      cases this
    have f3 : ∀ b ∈ fp, FpOk X pins H2 b ∧ b < s3.heap.objs.size := fun b hb => by
      refine ⟨⟨?_, (f1 b hb).2⟩, ?_⟩
      · rw [hTabd.2 b (nP b hb)]; exact (f1 b hb).1
      · obtain ⟨o, e, _⟩ := T.obj _ _ st1 b hb
        rw [hh3]
        have h1 := Heap.lt_size e
        exact Nat.lt_of_lt_of_le h1 hsz
    have st3 : tn 0 s3.heap := by
      rw [hh3]
      exact T.keep _ _ _ st1 fun b hb o e => keep3 b o (nP b hb) e
    intro h' hn hsb
    have hszh : h'.objs.size = s3.heap.objs.size + 1 := by rw [hsb.1, Heap.size_push]
    have hgp : ∀ (o : Obj), o.data = .fields #[.int s3.gens.size 0, .str "<genexpr>" (s3.toks + 1), .str (X.env.qual ++ "<genexpr>") (s3.toks + 1 + 1)] → ∀ h : Heap, (h.push o).get? h.objs.size = some o := fun o e h => Heap.get?_push_size h (by rw [Obj.isFreed_of_fields e])
    generalize hgo : ({ cls := .type "generator", data := .fields #[.int s3.gens.size 0, .str "<genexpr>" (s3.toks + 1), .str (X.env.qual ++ "<genexpr>") (s3.toks + 1 + 1)] } : Obj) = go at hgp ⊢
    have hgod : go.data = .fields #[.int s3.gens.size 0, .str "<genexpr>" (s3.toks + 1), .str (X.env.qual ++ "<genexpr>") (s3.toks + 1 + 1)] := by rw [← hgo]
    have hgen : ∀ h : Heap, h.get? h'.objs.size = some go → h.IsGen h'.objs.size s3.gens.size := fun h e => ⟨go, _, _, e, by rw [← hgo], hgod, by rw [← hgo]⟩
    have J0 := gen_start (A' := GA X.A (.GeneratorExp elt [⟨tg, iter, ifs, 0⟩] scope gpos) it (genEnv scope (cloFrom X.env.cells scope.names []) s3.heap.objs.size code builtinsNs X.env)) (code := code) (it := .ref it) (go := go)
      (gens' := s3.gens.push (.fresh (.compStart (.GeneratorExp elt [⟨tg, iter, ifs, 0⟩] scope gpos) 0 (.ref it) .none (genEnv scope (cloFrom X.env.cells scope.names []) s3.heap.objs.size code builtinsNs X.env)))) (tk := s3.toks + 1 + 1 + 1)
      I3 ok gk hN f3 (fun _ => GA_hd.trans hr.hd) (GA_frames I3.ok.frames) hn hsb (AllBare.push I3.bare rfl) (fun v e => by rw [hgod] at e; cases e) (hgp go hgod)
    have pg := hg s3 H2 s3.heap.objs.size code it fp [(h'.objs.size, go)]
    have pt := ht s3 H2 s3.heap.objs.size code it fp [(h'.objs.size, go)]
    have pe := he s3 H2 s3.heap.objs.size code it fp [(h'.objs.size, go)]
    generalize hce : genEnv scope (cloFrom X.env.cells scope.names []) s3.heap.objs.size code builtinsNs X.env = ce at J0 pg pt pe ⊢
    have hceS : ce.scope = scope := by rw [← hce]; rfl
    have hpnf : ∀ p ∈ [(h'.objs.size, go)], p.1 ∉ fp := fun p hp z => by
      rw [List.mem_singleton.mp hp] at z
      have h9 : (h'.objs.size : Nat) < s3.heap.objs.size := (f3 _ z).2
      omega
    have hSz : (h'.push go).objs.size = s3.heap.objs.size + 2 := by rw [Heap.size_push, hszh]
    generalize hSoD : (if own? = true then some (s3.heap.objs.size + 2) else none) = So
    have hSoE : ∀ S, So = some S → S = s3.heap.objs.size + 2 := fun S e => by
      rw [← hSoD] at e
      split at e
      · exact (Option.some.inj e).symm
      · cases e
    have hceL : ce.locals = s3.heap.objs.size := by rw [← hce]; rfl
    have hSo : SApart So (gcx X (GA X.A (.GeneratorExp elt [⟨tg, iter, ifs, 0⟩] scope gpos) it ce) s3 H2 ce fp [(h'.objs.size, go)]) fp := fun S e => by
      rw [hSoE S e]
      refine ⟨Nat.le_add_right _ _, ?_, ?_, fun z => ?_, fun x c' e z => ?_, fun p hp z => ?_⟩
      · show _ ≠ ce.locals
        rw [hceL]; exact Nat.ne_of_gt (Nat.lt_succ_of_le (Nat.le_succ _))
      · show _ ∉ frs X.stack
        intro z
        have lt : ∀ b ∈ frs X.stack, b < s3.heap.objs.size := fun b hb => by
          rcases List.mem_cons.mp (I3.stkSub b hb) with e | hb
          · rw [e]; exact I3.lt
          · obtain ⟨_, o, ho, _⟩ := I3.ok.funs.mem hb
            exact Nat.lt_of_lt_of_le (Heap.lt_size ho) I3.sz
        have h9 : (s3.heap.objs.size + 2 : Nat) < s3.heap.objs.size := lt _ z
        omega
      · have h9 : (s3.heap.objs.size + 2 : Nat) < s3.heap.objs.size := (f3 _ z).2
        omega
      · obtain ⟨v, hcell⟩ := J0.cell x c' e
        have h1 := hcell.lt
        rw [z] at h1
        have h1 : s3.heap.objs.size + 2 < (h'.push go).objs.size := h1
        rw [hSz] at h1
        exact Nat.lt_irrefl _ h1
      · rw [List.mem_singleton.mp hp] at z
        have z : h'.objs.size = s3.heap.objs.size + 2 := z
        rw [hszh] at z
        omega
    have loop := gseg_loop (So := So) (A := X.A.in1.in1) (X := gcx X (GA X.A (.GeneratorExp elt [⟨tg, iter, ifs, 0⟩] scope gpos) it ce) s3 H2 ce fp [(h'.objs.size, go)]) (elt := elt) (tg := tg) (iter := iter) (ifs := ifs) (scope := scope) (pos := gpos) (it := it) (fp := fp) (tn := tn)
      rfl hc (by show ce.scope.isCoroutine = false; rw [hceS]; exact gk.co) rfl T (fun b hb => hb) hpnf hSo pg pt pe turn
    have backI : ∀ {H' : Hp} {s' : Shared}, Inv (gcx X (GA X.A (.GeneratorExp elt [⟨tg, iter, ifs, 0⟩] scope gpos) it ce) s3 H2 ce fp [(h'.objs.size, go)]) [] (wipe σ (own.map (·.2))) H' s' → Inv X pins σ H' s' := fun {H' s'} J =>
      I3.call' (ch := fp) J.os J.base J.hok J.bare fun b hb => ⟨(f3 b hb).1.2.2.2.1, (f3 b hb).1.2.1, (f3 b hb).1.2.2.2.2.1, (f3 b hb).1.2.2.2.2.2⟩
    have hfreeS : SFree So H2 := fun S e => by
      rw [hSoE S e]
      exact I3.hok.fresh (Nat.le_add_right _ _)
    have eSo : (if own? = true then some (h'.push go).objs.size else none) = So := by rw [hSz]; exact hSoD
    refine hQ h'.objs.size (Live So (gcx X (GA X.A (.GeneratorExp elt [⟨tg, iter, ifs, 0⟩] scope gpos) it ce) s3 H2 ce fp [(h'.objs.size, go)]) X.A.in1.in1 (wipe σ (own.map (·.2))) Z Fin h'.objs.size s3.gens.size) m _ hB ?_ ?_
    · show GReady (if own? = true then some (h'.push go).objs.size else none) _ _ _ _ _ _ _
      rw [eSo]
      refine ⟨fun m s Q E hl hq => wpAny_pyIter_gen hl.1 hq, fun m s hl => hl.2.2.1, fun m s s' hl hs hg => live_frame hl hs hg, fun m s E hl hth => ?_⟩
      refine thnF (live_next (X := gcx X (GA X.A (.GeneratorExp elt [⟨tg, iter, ifs, 0⟩] scope gpos) it ce) s3 H2 ce fp [(h'.objs.size, go)]) (A := X.A.in1) (go := go) (E := fun _ _ => False) hSo hr.hd hr.depth List.mem_cons_self hgen hl hth) fun r s' hh => ?_
      rcases hh with ⟨rfl, hm, H', J, sk, f⟩ | ⟨v, y, H', C, rfl, rv, J, sf, sk, z, cc⟩
      · exact .inl ⟨rfl, hm, H', backI J, sk, f⟩
      · exact .inr ⟨v, y, H', C, rfl, rv, backI J, sf, sk, z, cc⟩
    · have hgg : (h'.push go).get? h'.objs.size = some go := hgp go hgod h'
      refine ⟨hgen _ hgg, J0.nolimit, J0.bare, fun S e => ?_, _, Array.getElem?_push_size .., fun s'' hs => ?_⟩
      · rw [hSoE S e, hszh]
        refine ⟨Nat.ne_of_gt (Nat.lt_succ_self _), ?_⟩
        have hcl : cStatics < s3.heap.objs.size := let ⟨_, hns, _⟩ := I3.nolimit; hns.lt
        intro z
        rw [← z] at hcl
        have h9 : (s3.heap.objs.size + 2 : Nat) < s3.heap.objs.size := hcl
        omega
      have hst5 : ∀ b ∈ fp, ∀ o, s3.heap.get? b = some o → (h'.push go).get? b = some o := fun b hb o e =>
        Heap.get?_push_of_some _ (hsb.extBut b o (Nat.ne_of_lt (f3 b hb).2) (Heap.get?_push_of_some _ e))
      have hst' : tn 0 s''.heap := by
        refine T.keep _ _ _ st3 fun b hb o e => ?_
        cases So with
        | none => rw [show s''.heap = h'.push go from hs.2.2]; exact hst5 b hb o e
        | some S => exact hs.2.2.1 b o (fun z => (hSo S rfl).2.2.2.1 (by rw [← z]; exact hb)) (hst5 b hb o e)
      exact ⟨rfl, gseg_start T hst' (loop m r 0 H2 s'' s'' w0 (Inv.sim hSo hfreeS J0 hs) hfreeS (fun _ _ => rfl) (fun S e => by subst e; exact hs.2.2.2) hst' fun b hb => (f3 b hb).1.1)⟩
  cases hf : codeAmong gpos ps.toList with
  | none =>
    refine wpAny_genexprCodeX hcode (cd.code hPs ht0) (cd.tab hPs) hf fun c' h' tk hx hge hlt hco' _ htab' _ => ?_
    obtain ⟨o1, vs, fl1, tf, fl, tg', inF, tx, tt', op, _, _, _, _, _, _, _, _, _, htr, _⟩ := hco'
    exact cont _ h' tk _ hx (Nat.le_trans hge (Nat.le_of_lt hlt)) htab'.2 ⟨_, rfl⟩ htr
  | some cv =>
    refine wpAny_genexprCode_hit hcode (cd.code hPs ht0) hf ?_
    exact cont cv s2.heap s2.toks ps (Heap.ExtBut.refl _ _) (Nat.le_refl _) hPs ⟨#[], by simp⟩ ht0
end
end DL

namespace DL
open PySem PySem.Spec PyProof.Rows L2 GxR GenW
theorem sum_loop {prog : Program} {w : World} {A : Around} {R : Result → Shared → Prop} {I : Addr} {S : Addr} (Lv : Nat → Shared → Prop) (val : Nat → Int) (End : Shared → Prop) (So : Option Addr) (hSo : So = some S)
    (fr : ∀ m s s', Lv m s → Sim So s s' → s'.gens = s.gens → Lv m s') (hb : ∀ m s, Lv m s → AllBare s.gens)
    (step : ∀ m s E, Lv m s → SThere So s → wpAny (model prog w) A.in1 (pyNext (.ref I)) (fun r s' => (r = none ∧ m = 0 ∧ End s' ∧ SKept So s s') ∨
      ∃ v y H C, r = some v ∧ RelV y v ∧ SKept So s s' ∧ (y = V.int (val (m - 1)) ∧ C) ∧ (C → ∃ m', m = m' + 1 ∧ Lv m' s') ∧ (H : Unit) = H) E s) :
    ∀ (m : Nat) (s : Shared) (acc : Int) (tA : Tok) (c : Nat) (st : Int), (st = 0 ∨ st = 2) → Lv m s → s.heap.get? S = some { cls := .type "list", dict := none, data := .seq #[.int acc tA] c, slots := #[] } →
      (∀ s' t', End s' → R (.ok (.ret (.int (acc + ((List.range m).map val).sum) t'))) s') → codeAny (model prog w) A (.builtin "sum.loop" ⟨[.ref I, .ref S, rawInt st, rawInt 0], []⟩) R s := by
  subst hSo
  intro m
  induction m with
  | zero =>
    intro s acc tA c st hst2 hl hS hR
    refine codeAny_builtin F.entry_sum_loop ?_
    rw [Around.under_plainId F.plain_sum_loop _]
    show wpAny _ A.in1 (seqItems? (.ref S) >>= _) _ _ s
    refine wpAny_bind (wpAny_seqItems hS rfl ?_)
    show wpAny _ A.in1 (tryCatch (pyNext (.ref I)) _ >>= _) _ _ s
    refine wpAny_bind (wpAny_tryCatch (wpAny_mono (step 0 s _ hl fun S' e => by cases e; exact ⟨_, hS, fun v q => by cases q⟩) (fun r s' h => ?_) fun _ _ z => z))
    rcases h with ⟨rfl, _, he, sk⟩ | ⟨v, y, _, C, rfl, rv, sk, ⟨rfl, hC⟩, cont, _⟩
    · refine wpAny_pure ?_
      have := hR s' tA he
      simpa using this
    · obtain ⟨m', hm, _⟩ := cont hC
      cases hm
  | succ m ih =>
    intro s acc tA c st hst2 hl hS hR
    refine codeAny_builtin F.entry_sum_loop ?_
    rw [Around.under_plainId F.plain_sum_loop _]
    show wpAny _ A.in1 (seqItems? (.ref S) >>= _) _ _ s
    refine wpAny_bind (wpAny_seqItems hS rfl ?_)
    show wpAny _ A.in1 (tryCatch (pyNext (.ref I)) _ >>= _) _ _ s
    refine wpAny_bind (wpAny_tryCatch (wpAny_mono (step (m + 1) s _ hl fun S' e => by cases e; exact ⟨_, hS, fun v q => by cases q⟩) (fun r s' h => ?_) fun _ _ z => z))
    rcases h with ⟨rfl, hm, he, sk⟩ | ⟨v, y, _, C, rfl, rv, sk, ⟨rfl, hC⟩, cont, _⟩
    · cases hm
    obtain ⟨m', hm, hl'⟩ := cont hC
    obtain rfl : m = m' := Nat.succ.inj hm
    obtain ⟨t, rfl⟩ := rv
    have hS' : s'.heap.get? S = _ := (sk S rfl).trans hS
    have val_eq : val (m + 1 - 1) = val m := rfl
    have hsum : ((List.range (m + 1)).map val).sum = ((List.range m).map val).sum + val m := by
      rw [List.range_succ, List.map_append, List.sum_append]; simp
    have simOf : ∀ (h' : Heap) (tk : Nat) (o : Obj), (∀ b o, b ≠ S → s'.heap.get? b = some o → h'.get? b = some o) → h'.get? S = some o → (∀ v, o.data ≠ .cell v) → Sim (some S) s' { s' with heap := h', toks := tk } := fun h' tk o hk ho hd =>
      ⟨rfl, hb m s' hl', hk, o, ho, hd⟩
    have go : ∀ (tk : Nat) (tA' : Tok) (h' : Heap) (st : Int) (c : Nat), (st = 0 ∨ st = 2) → (∀ b o, b ≠ S → s'.heap.get? b = some o → h'.get? b = some o) → h'.get? S = some { cls := .type "list", dict := none, data := .seq #[.int (acc + val m) tA'] c, slots := #[] } →
        codeAny (model prog w) A (.builtin "sum.loop" ⟨[.ref I, .ref S, rawInt st, rawInt 0], []⟩) R { s' with heap := h', toks := tk } := fun tk tA' h' st c hst hk ho => by
      refine ih { s' with heap := h', toks := tk } (acc + val m) tA' c st hst (fr m s' _ hl' (simOf h' tk _ hk ho fun v q => by cases q) rfl) ho fun s'' t' he => ?_
      have := hR s'' t' he
      rw [hsum] at this
      rw [show acc + val m + ((List.range m).map val).sum = acc + (((List.range m).map val).sum + val m) by omega]
      exact this
    rcases hst2 with rfl | rfl
    · show wpAny _ A.in1 (if (_ : Bool) = true then (mkInt (acc + val (m + 1 - 1)) >>= _) else _) _ _ _
      rw [val_eq]
      split
      · refine wpAny_bind (wpAny_mkInt ?_)
        show wpAny _ A.in1 (updateSeq S (fun _ => #[.int (acc + val m) s'.toks]) >>= _) _ _ _
        refine wpAny_bind ?_
        refine wpAny_updateSeq hS' rfl (wpAny_pure ⟨plainId_quiet F.plain_sum_loop _, go _ s'.toks _ 0 _ (.inl rfl) (fun b o hb e => (Heap.get?_update_other _ _ (Ne.symm hb)).trans e) (Heap.get?_update_self _ hS' rfl)⟩)
      · refine wpAny_bind (wpAny_rule ?_)
        refine wpAny_bind (wpAny_attempt (wpAny_holding (wpAny_add_int ?_)))
        show wpAny _ A.in1 (updateSeq S (fun _ => #[.int (acc + val m) s'.toks]) >>= _) _ _ _
        refine wpAny_bind (wpAny_updateSeq hS' rfl ?_)
        have hS₂ := Heap.get?_update_self (Obj.mapSeq fun _ => #[Value.int (acc + val m) s'.toks]) hS' rfl
        refine wpAny_bind (wpAny_letGo ?_)
        refine wpAny_bind (wpAny_updateSeq hS₂ rfl (wpAny_pure ⟨plainId_quiet F.plain_sum_loop _, go _ s'.toks _ 2 _ (.inr rfl) (fun b o hb e => (Heap.get?_update_other _ _ (Ne.symm hb)).trans ((Heap.get?_update_other _ _ (Ne.symm hb)).trans e)) (Heap.get?_update_self _ hS₂ rfl)⟩))
    · show wpAny _ A.in1 ((holding [Value.int (val (m + 1 - 1)) t] (binaryOp .Add (.int acc tA) (.int (val (m + 1 - 1)) t))).attempt >>= _) _ _ _
      rw [val_eq]
      refine wpAny_bind (wpAny_attempt (wpAny_holding (wpAny_add_int ?_)))
      show wpAny _ A.in1 (updateSeq S (fun _ => #[.int (acc + val m) s'.toks]) >>= _) _ _ _
      refine wpAny_bind (wpAny_updateSeq hS' rfl ?_)
      have hS₂ := Heap.get?_update_self (Obj.mapSeq fun _ => #[Value.int (acc + val m) s'.toks]) hS' rfl
      refine wpAny_bind (wpAny_letGo ?_)
      refine wpAny_bind (wpAny_updateSeq hS₂ rfl (wpAny_pure ⟨plainId_quiet F.plain_sum_loop _, go _ s'.toks _ 2 _ (.inr rfl) (fun b o hb e => (Heap.get?_update_other _ _ (Ne.symm hb)).trans ((Heap.get?_update_other _ _ (Ne.symm hb)).trans e)) (Heap.get?_update_self _ hS₂ rfl)⟩))

def zAll (Q : VK) : TZ := fun _ y H C => ∃ k, y = V.bl k ∧ if k = true then C else Q (.bl false) H
def zAny (Q : VK) : TZ := fun _ y H C => ∃ k, y = V.bl k ∧ if k = true then Q (.bl true) H else C
def zSum (val : Nat → Int) : TZ := fun m y _ C => y = V.int (val m) ∧ C
def tAllG (P : Addr) (wi : TI) (g : TG) (tt : TT) (te : TE) (vs : List Nat) : TE := fun σ H Q => tGen P wi g tt te vs (zAll Q) (Q (.bl true)) (fun _ => True) σ H
def tAnyG (P : Addr) (wi : TI) (g : TG) (tt : TT) (te : TE) (vs : List Nat) : TE := fun σ H Q => tGen P wi g tt te vs (zAny Q) (Q (.bl false)) (fun _ => True) σ H
def tSumG (P : Addr) (wi : TI) (g : TG) (tt : TT) (te : TE) (vs : List Nat) : TE := fun σ H Q => ∃ (val : Nat → Int) (n : Nat), tGen P wi g tt te vs (zSum val) (Q (.int ((List.range n).map val).sum)) (fun m => m = n) σ H
section
variable {X : Cx} {c P : Addr} {elt tg iter : Expr} {ifs : List Expr} {scope : Scope} {own : List (Str × Nat)} {p pos gpos : Pos} {wi : TI} {g : TG} {tt : TT} {te : TE} {k : Nat}
abbrev gctx (X : Cx) (elt tg iter : Expr) (ifs : List Expr) (scope : Scope) (gpos : Pos) (s : Shared) (H : Hp) (C : Addr) (code : Value) (it : Addr) (fp : List Addr) (pn : List (Addr × Obj)) : Cx :=
  gcx X (GA X.A (.GeneratorExp elt [⟨tg, iter, ifs, 0⟩] scope gpos) it (genEnv scope (cloFrom X.env.cells scope.names []) C code builtinsNs X.env)) s H (genEnv scope (cloFrom X.env.cells scope.names []) C code builtinsNs X.env) fp pn
theorem pe_allG (hr : Room k X.A) (hc : X.calm = true) (hN : X.N.Nodup) (hG : Gl X "all") (hm : X.mg "all" = none) (TB : TabB X.base X.mg c P) (hcode : X.env.code = .ref c) (ok : BlkOk X.N X.env.scope scope own) (gk : GOk scope) (hi : PI X tg iter wi)
    (hg : ∀ s H C code it fp pn, PG (gctx X elt tg iter ifs scope gpos s H C code it fp pn) tg g) (ht : ∀ s H C code it fp pn, PTs (gctx X elt tg iter ifs scope gpos s H C code it fp pn) ifs tt)
    (he : ∀ s H C code it fp pn, PE (gctx X elt tg iter ifs scope gpos s H C code it fp pn) elt te)
    (hb : bootBuiltins "all" = some (.builtin "all") := by decide +kernel) (hs : ∀ v, genFold iter X.env v = pure v := by intro _; rfl)
    (hst : starEach [.GeneratorExp elt [⟨tg, iter, ifs, 0⟩] scope gpos] X.env = (false, eval (.GeneratorExp elt [⟨tg, iter, ifs, 0⟩] scope gpos) X.env) :: starEach [] X.env := by rfl) :
    PE X (.Call (.Name "all" p) [.GeneratorExp elt [⟨tg, iter, ifs, 0⟩] scope gpos] [] pos) (tAllG P wi g tt te (own.map (·.2))) := by
  refine ⟨fun pins s σ H Q I h => ?_⟩
  refine wpAny_Call_Name_kw (ld_blt I hG hm hb ?_)
  refine PyProof.Rows.callWith_builtin1 ?_ hst (by rfl)
  rw [hst]
  show wpAny _ _ (spliced ((false, eval (.GeneratorExp elt [⟨tg, iter, ifs, 0⟩] scope gpos) X.env) :: backTo pos (starEach [] X.env))) _ _ s
  refine Calls.spliced_cons (gen_make false hr hc hN TB hcode ok gk hi hg ht he hs I h fun ga Lv m s5 _ G hl => ?_)
  refine Calls.spliced_nil ?_
  refine call_function_tree F.kind_all F.plain_all F.entry_all (F.args_all1 _) ?_
  unfold Builtin.«all»
  refine wpAny_bind (m := oneArg "all" _) (wpAny_pure ?_)
  refine wpAny_bind (G.self m s5 _ _ hl ?_)
  refine wpAny_pure ⟨plainId_quiet F.plain_all_loop _, all_loop Lv (fun m s E hl => ?_) m s5 hl⟩
  refine wpAny_mono (G.next m s E hl fun S e => by cases e) (fun r s' h => ?_) fun _ _ z => z
  rcases h with ⟨rfl, _, H', J, _, f⟩ | ⟨v, y, H', C, rfl, rv, J, _, _, z, cc⟩
  · exact .inl ⟨rfl, ⟨.bl true, H', J, rfl, f⟩⟩
  · obtain ⟨b, rfl, z⟩ := z
    cases rv
    refine .inr ⟨b, rfl, ?_⟩
    cases b with
    | true =>
      simp only [if_true] at z ⊢
      obtain ⟨m', hm', hl'⟩ := cc z
      exact ⟨m', by omega, hl'⟩
    | false =>
      simp only [Bool.false_eq_true, if_false] at z ⊢
      exact ⟨.bl false, H', J, rfl, z⟩
theorem pe_anyG (hr : Room k X.A) (hc : X.calm = true) (hN : X.N.Nodup) (hG : Gl X "any") (hm : X.mg "any" = none) (TB : TabB X.base X.mg c P) (hcode : X.env.code = .ref c) (ok : BlkOk X.N X.env.scope scope own) (gk : GOk scope) (hi : PI X tg iter wi)
    (hg : ∀ s H C code it fp pn, PG (gctx X elt tg iter ifs scope gpos s H C code it fp pn) tg g) (ht : ∀ s H C code it fp pn, PTs (gctx X elt tg iter ifs scope gpos s H C code it fp pn) ifs tt)
    (he : ∀ s H C code it fp pn, PE (gctx X elt tg iter ifs scope gpos s H C code it fp pn) elt te)
    (hb : bootBuiltins "any" = some (.builtin "any") := by decide +kernel) (hs : ∀ v, genFold iter X.env v = pure v := by intro _; rfl)
    (hst : starEach [.GeneratorExp elt [⟨tg, iter, ifs, 0⟩] scope gpos] X.env = (false, eval (.GeneratorExp elt [⟨tg, iter, ifs, 0⟩] scope gpos) X.env) :: starEach [] X.env := by rfl) :
    PE X (.Call (.Name "any" p) [.GeneratorExp elt [⟨tg, iter, ifs, 0⟩] scope gpos] [] pos) (tAnyG P wi g tt te (own.map (·.2))) := by
  refine ⟨fun pins s σ H Q I h => ?_⟩
  refine wpAny_Call_Name_kw (ld_blt I hG hm hb ?_)
  refine PyProof.Rows.callWith_builtin1 ?_ hst (by rfl)
  rw [hst]
  show wpAny _ _ (spliced ((false, eval (.GeneratorExp elt [⟨tg, iter, ifs, 0⟩] scope gpos) X.env) :: backTo pos (starEach [] X.env))) _ _ s
  refine Calls.spliced_cons (gen_make false hr hc hN TB hcode ok gk hi hg ht he hs I h fun ga Lv m s5 _ G hl => ?_)
  refine Calls.spliced_nil ?_
  refine call_function_tree F.kind_any F.plain_any F.entry_any (F.args_any1 _) ?_
  unfold Builtin.«any»
  refine wpAny_bind (m := oneArg "any" _) (wpAny_pure ?_)
  refine wpAny_bind (G.self m s5 _ _ hl ?_)
  refine wpAny_pure ⟨plainId_quiet F.plain_any_loop _, any_loop Lv (fun m s E hl => ?_) m s5 hl⟩
  refine wpAny_mono (G.next m s E hl fun S e => by cases e) (fun r s' h => ?_) fun _ _ z => z
  rcases h with ⟨rfl, _, H', J, _, f⟩ | ⟨v, y, H', C, rfl, rv, J, _, _, z, cc⟩
  · exact .inl ⟨rfl, ⟨.bl false, H', J, rfl, f⟩⟩
  · obtain ⟨b, rfl, z⟩ := z
    cases rv
    refine .inr ⟨b, rfl, ?_⟩
    cases b with
    | false =>
      simp only [Bool.false_eq_true, if_false] at z ⊢
      obtain ⟨m', hm', hl'⟩ := cc z
      exact ⟨m', by omega, hl'⟩
    | true =>
      simp only [if_true] at z ⊢
      exact ⟨.bl true, H', J, rfl, z⟩
theorem pe_sumG (hr : Room k X.A) (hc : X.calm = true) (hN : X.N.Nodup) (hG : Gl X "sum") (hm : X.mg "sum" = none) (TB : TabB X.base X.mg c P) (hcode : X.env.code = .ref c) (ok : BlkOk X.N X.env.scope scope own) (gk : GOk scope) (hi : PI X tg iter wi)
    (hg : ∀ s H C code it fp pn, PG (gctx X elt tg iter ifs scope gpos s H C code it fp pn) tg g) (ht : ∀ s H C code it fp pn, PTs (gctx X elt tg iter ifs scope gpos s H C code it fp pn) ifs tt)
    (he : ∀ s H C code it fp pn, PE (gctx X elt tg iter ifs scope gpos s H C code it fp pn) elt te)
    (hb : bootBuiltins "sum" = some (.builtin "sum") := by decide +kernel) (hs : ∀ v, genFold iter X.env v = pure v := by intro _; rfl)
    (hst : starEach [.GeneratorExp elt [⟨tg, iter, ifs, 0⟩] scope gpos] X.env = (false, eval (.GeneratorExp elt [⟨tg, iter, ifs, 0⟩] scope gpos) X.env) :: starEach [] X.env := by rfl) :
    PE X (.Call (.Name "sum" p) [.GeneratorExp elt [⟨tg, iter, ifs, 0⟩] scope gpos] [] pos) (tSumG P wi g tt te (own.map (·.2))) := by
  refine ⟨fun pins s σ H Q I h => ?_⟩
  obtain ⟨val, n, h⟩ := h
  refine wpAny_Call_Name_kw (ld_blt I hG hm hb ?_)
  refine PyProof.Rows.callWith_builtin1 ?_ hst (by rfl)
  rw [hst]
  show wpAny _ _ (spliced ((false, eval (.GeneratorExp elt [⟨tg, iter, ifs, 0⟩] scope gpos) X.env) :: backTo pos (starEach [] X.env))) _ _ s
  refine Calls.spliced_cons (gen_make true hr hc hN TB hcode ok gk hi hg ht he hs I h fun ga Lv m s5 hB G hl => ?_)
  subst hB
  refine Calls.spliced_nil ?_
  refine call_function_tree F.kind_sum F.plain_sum F.entry_sum (F.args_sum1 _) ?_
  unfold Builtin.«sum»
  simp only [List.length_cons, List.length_nil]
  rw [if_neg (by decide)]
  refine wpAny_bind (wpAny_of_eq (show Builtin.Builtins.bindParams "sum" ["start"] 0 { } = pure [none] from rfl) ?_)
  refine wpAny_bind (G.self m s5 _ _ hl ?_)
  refine wpAny_bind (wpAny_mkInt ?_)
  refine wpAny_bind (wpAny_pure ?_)
  simp only [List.forIn_cons, List.forIn_nil]
  refine wpAny_bind (wpAny_bind (wpAny_bind (wpAny_isInstance (T := "int") (b := false) (typeIs_int _ _ _) PySem.sub_int_str ?_)))
  simp only [Bool.false_eq_true, if_false]
  refine wpAny_pure (wpAny_bind (wpAny_bind (wpAny_isInstance (T := "int") (b := false) (typeIs_int _ _ _) PySem.sub_int_bytes ?_)))
  simp only [Bool.false_eq_true, if_false]
  refine wpAny_pure (wpAny_bind (wpAny_bind (wpAny_isInstance (T := "int") (b := false) (typeIs_int _ _ _) PySem.sub_int_bytearray ?_)))
  simp only [Bool.false_eq_true, if_false]
  refine wpAny_pure (wpAny_pure ?_)
  refine wpAny_bind (wpAny_newObj_type ?_)
  have hk : ∀ (o : Obj) b u, s5.heap.get? b = some u → (s5.heap.push o).get? b = some u := fun o b u e => Heap.get?_push_of_some _ e
  refine wpAny_pure ⟨plainId_quiet F.plain_sum_loop _, sum_loop Lv val (fun s' => ∃ H', Inv X pins σ H' s' ∧ Q (.int ((List.range m).map val).sum) H') (some s5.heap.objs.size) rfl G.frame G.bare (fun m s E hl hth => ?_) m _ 0 s5.toks 0 0 (.inl rfl) ?_ (Heap.get?_push_size _ rfl) fun s' t' he => ?_⟩
  · refine wpAny_mono (G.next m s E hl hth) (fun r s' h => ?_) fun _ _ z => z
    rcases h with ⟨rfl, h0, H', J, sk, f⟩ | ⟨v, y, H', C, rfl, rv, J, sf, sk, z, cc⟩
    · exact .inl ⟨rfl, h0, ⟨H', J, f⟩, sk⟩
    · exact .inr ⟨v, y, (), C, rfl, rv, sk, z, cc, rfl⟩
  · refine G.frame m s5 _ hl ⟨rfl, G.bare m s5 hl, fun b o _ e => hk _ b o e, _, Heap.get?_push_size _ rfl, fun v q => by cases q⟩ rfl
  · obtain ⟨H', J, q⟩ := he
    exact ⟨.int _, H', J, ⟨t', by rw [Int.zero_add]⟩, q⟩
end
end DL

namespace DL
open PySem PySem.Spec PyProof.Rows L2 GxR
abbrev D := PyData
/-- what a name holds: a datum that stands still, or a list (a dict) that nothing else has -/
inductive SV where
  | un
  | fz (d : D)
  | sq (ds : List D)
  | ow (t : Option Addr) (ds : List D)
  | dk (kvs : List (Key × D))
def SV.own : SV → Bool
  | .ow _ _ => true
  | .dk _ => true
  | _ => false
abbrev Ev := List SV
abbrev EM (α : Type) := Ev → Option (α × Ev)
def NT (o : HO) : Prop := ∀ ps, o ≠ .tbl ps
def Mono (F F' : Hp) : Prop := ∀ a o, F a = some o → F' a = some o
theorem Mono.refl {F : Hp} : Mono F F := fun _ _ e => e
theorem Mono.trans {F F' F'' : Hp} (a : Mono F F') (b : Mono F' F'') : Mono F F'' := fun x o e => b x o (a x o e)
structure Wf (Tb : List Addr) (F H : Hp) : Prop where
  sub : Mono F H
  nt : ∀ a o, F a = some o → NT o
  tabs : ∀ P ∈ Tb, TabG H P
theorem SqL.mono {K : PySem.W.Frag} {F F' : Hp} {a : Addr} {xs : List V} (m : Mono F F') (h : SqL K F a xs) : SqL K F' a xs := by
  rcases h with (h | ⟨o, h⟩) | h
  · exact .inl (.inl (m _ _ h))
  · exact .inl (.inr ⟨o, m _ _ h⟩)
  · exact .inr h
theorem SqT.mono {K : PySem.W.Frag} {F F' : Hp} {a : Addr} {xs : List V} (m : Mono F F') (h : SqT K F a xs) : SqT K F' a xs := by
  rcases h with (h | ⟨o, h⟩) | h
  · exact .inl (.inl (m _ _ h))
  · exact .inl (.inr ⟨o, m _ _ h⟩)
  · exact .inr h
mutual
/-- a value is a datum: its lists are tracked -/
inductive Dt (K : PySem.W.Frag) (F : Hp) : V → D → Prop
  | non : Dt K F .non .none
  | bl (b : Bool) : Dt K F (.bl b) (.bool b)
  | int (i : Int) : Dt K F (.int i) (.int i)
  | str (x : Str) : Dt K F (.str x) (.str x)
  | lst {a : Addr} {xs : List V} {ds : List D} : F a = some (.lst xs) → DtAll K F xs ds → Dt K F (.ref a) (.list ds)
  | tup {a : Addr} {xs : List V} {ds : List D} : SqT K F a xs → DtAll K F xs ds → Dt K F (.ref a) (.tuple ds)
inductive DtAll (K : PySem.W.Frag) (F : Hp) : List V → List D → Prop
  | nil : DtAll K F [] []
  | cons {v : V} {vs : List V} {d : D} {ds : List D} : Dt K F v d → DtAll K F vs ds → DtAll K F (v :: vs) (d :: ds)
end
section
variable {K : PySem.W.Frag} {F F' H H' : Hp}
mutual
theorem Dt.toDp : ∀ {d : D} {v : V}, Dt K F v d → Dp K F v d
  | .none, _, h => by cases h; exact .non
  | .bool b, _, h => by cases h; exact .bl b
  | .int i, _, h => by cases h; exact .int i
  | .str x, _, h => by cases h; exact .str x
  | .list ds, _, h => by cases h with | lst a b => exact .lst (SqL.of a) (DtAll.toDp b)
  | .tuple ds, _, h => by cases h with | tup a b => exact .tup a (DtAll.toDp b)
  | .dict _, _, h => by cases h
theorem DtAll.toDp : ∀ {ds : List D} {vs : List V}, DtAll K F vs ds → DpAll K F vs ds
  | [], _, h => by cases h; exact .nil
  | d :: ds, _, h => by cases h with | cons a b => exact .cons (Dt.toDp a) (DtAll.toDp b)
end
mutual
theorem Dt.mono (m : Mono F F') : ∀ {d : D} {v : V}, Dt K F v d → Dt K F' v d
  | .none, _, h => by cases h; exact .non
  | .bool b, _, h => by cases h; exact .bl b
  | .int i, _, h => by cases h; exact .int i
  | .str x, _, h => by cases h; exact .str x
  | .list ds, _, h => by cases h with | lst a b => exact .lst (m _ _ a) (DtAll.mono m b)
  | .tuple ds, _, h => by cases h with | tup a b => exact .tup (SqT.mono m a) (DtAll.mono m b)
  | .dict _, _, h => by cases h
theorem DtAll.mono (m : Mono F F') : ∀ {ds : List D} {vs : List V}, DtAll K F vs ds → DtAll K F' vs ds
  | [], _, h => by cases h; exact .nil
  | d :: ds, _, h => by cases h with | cons a b => exact .cons (Dt.mono m a) (DtAll.mono m b)
end
theorem DtAll.length : ∀ {vs : List V} {ds : List D}, DtAll K F vs ds → vs.length = ds.length
  | _, _, .nil => rfl
  | _, _, .cons _ t => congrArg (· + 1) (DtAll.length t)
theorem DtAll.append : ∀ {vs us : List V} {ds es : List D}, DtAll K F vs ds → DtAll K F us es → DtAll K F (vs ++ us) (ds ++ es)
  | _, _, _, _, .nil, q => q
  | _, _, _, _, .cons a t, q => .cons a (DtAll.append t q)
theorem DtAll.get : ∀ {vs : List V} {ds : List D} {i : Nat} {d : D}, DtAll K F vs ds → ds[i]? = some d → ∃ v, vs[i]? = some v ∧ Dt K F v d
  | _, _, _, _, .nil, e => by simp at e
  | _, _, 0, _, .cons a _, e => by simp at e; subst e; exact ⟨_, rfl, a⟩
  | _, _, i + 1, _, .cons _ t, e => by
    obtain ⟨v, h1, h2⟩ := DtAll.get (i := i) t (by simpa using e)
    exact ⟨v, by simpa using h1, h2⟩
theorem DtAll.get' : ∀ {vs : List V} {ds : List D} {i : Nat} {v : V}, DtAll K F vs ds → vs[i]? = some v → ∃ d, ds[i]? = some d ∧ Dt K F v d
  | _, _, _, _, .nil, e => by simp at e
  | _, _, 0, _, .cons a _, e => by simp at e; subst e; exact ⟨_, rfl, a⟩
  | _, _, i + 1, _, .cons _ t, e => by
    obtain ⟨v, h1, h2⟩ := DtAll.get' (i := i) t (by simpa using e)
    exact ⟨v, by simpa using h1, h2⟩
theorem DtAll.take : ∀ {vs : List V} {ds : List D} (n : Nat), DtAll K F vs ds → DtAll K F (vs.take n) (ds.take n)
  | _, _, 0, _ => .nil
  | _, _, _ + 1, .nil => .nil
  | _, _, n + 1, .cons a t => .cons a (DtAll.take n t)
theorem DtAll.drop : ∀ {vs : List V} {ds : List D} (n : Nat), DtAll K F vs ds → DtAll K F (vs.drop n) (ds.drop n)
  | _, _, 0, h => h
  | _, _, _ + 1, .nil => .nil
  | _, _, n + 1, .cons _ t => DtAll.drop n t
theorem DtAll.set : ∀ {vs : List V} {ds : List D} (i : Nat) {v : V} {d : D}, Dt K F v d → DtAll K F vs ds → DtAll K F (vs.set i v) (ds.set i d)
  | _, _, _, _, _, _, .nil => .nil
  | _, _, 0, _, _, h, .cons _ t => .cons h t
  | _, _, i + 1, _, _, h, .cons a t => .cons a (DtAll.set i h t)
theorem DtAll.reverse : ∀ {vs : List V} {ds : List D}, DtAll K F vs ds → DtAll K F vs.reverse ds.reverse
  | _, _, .nil => .nil
  | _, _, .cons a t => by
    rw [List.reverse_cons, List.reverse_cons]
    exact DtAll.append (DtAll.reverse t) (.cons a .nil)
theorem DtAll.dropLast {vs : List V} {ds : List D} (h : DtAll K F vs ds) : DtAll K F vs.dropLast ds.dropLast := by
  rw [List.dropLast_eq_take, List.dropLast_eq_take, DtAll.length h]
  exact DtAll.take _ h
theorem DtAll.rep {vs : List V} {ds : List D} (h : DtAll K F vs ds) : ∀ k : Nat, DtAll K F (List.replicate k vs).flatten (List.replicate k ds).flatten
  | 0 => .nil
  | k + 1 => by
    rw [List.replicate_succ, List.replicate_succ, List.flatten_cons, List.flatten_cons]
    exact DtAll.append h (DtAll.rep h k)
/-- a dict's pairs -/
def DtK (K : PySem.W.Frag) (F : Hp) : List (Key × V) → List (Key × D) → Prop := Paired fun p q => p.1 = q.1 ∧ Dt K F p.2 q.2
theorem DtK.mono (m : Mono F F') {a : List (Key × V)} {b : List (Key × D)} (h : DtK K F a b) : DtK K F' a b := Paired.mapP h fun _ _ z => ⟨z.1, Dt.mono m z.2⟩
end
/-- a slot -/
def SlotOk (K : PySem.W.Frag) (F H : Hp) : SV → Option V → Prop
  | .un, _ => True
  | .fz d, some v => Dt K F v d
  | .sq ds, some (.ref p) => ∃ vs, SqL K F p vs ∧ DtAll K F vs ds
  | .ow t ds, some (.ref p) => ((∀ q, t = some q → q = p) ∧ F p = none) ∧ ∃ vs, H p = some (.lst vs) ∧ DtAll K F vs ds
  | .dk kvs, some (.ref p) => F p = none ∧ ∃ ws, H p = some (.dK ws) ∧ DtK K F ws kvs
  | _, _ => False
structure RS (K : PySem.W.Frag) (Tb : List Addr) (F H : Hp) (env : Ev) (σ : L2.St) : Prop where
  wf : Wf Tb F H
  len : env.length = σ.length
  slot : ∀ (i : Nat) (x : SV), env[i]? = some x → ∃ y, σ[i]? = some y ∧ SlotOk K F H x y
  sep : ∀ (i j : Nat) (x y : SV), env[i]? = some x → env[j]? = some y → x.own = true → y.own = true → σ[i]? = σ[j]? → i = j
def Owned (env : Ev) (σ : L2.St) (b : Addr) : Prop := ∃ (i : Nat) (x : SV), env[i]? = some x ∧ x.own = true ∧ σ[i]? = some (some (V.ref b))
structure Stp (K : PySem.W.Frag) (Tb : List Addr) (F H : Hp) (env : Ev) (σ : L2.St) (F' H' : Hp) (env' : Ev) (σ' : L2.St) : Prop where
  mono : Mono F F'
  keep : ∀ b o, H b = some o → NT o → ¬ Owned env σ b → H' b = some o ∧ (F b = none → F' b = none)
  dom : ∀ b, H' b = none → H b = none
  rs : RS K Tb F' H' env' σ'
  sub : ∀ b, Owned env' σ' b → Owned env σ b ∨ H b = none
section
variable {K : PySem.W.Frag} {Tb : List Addr} {F H F' H' F1 H1 F2 H2 : Hp} {env env' env1 env2 : Ev} {σ σ' σ1 σ2 : L2.St}
theorem Stp.refl (h : RS K Tb F H env σ) : Stp K Tb F H env σ F H env σ := ⟨Mono.refl, fun _ _ e _ _ => ⟨e, id⟩, fun _ e => e, h, fun _ h => .inl h⟩
theorem Stp.trans (a : Stp K Tb F H env σ F1 H1 env1 σ1) (b : Stp K Tb F1 H1 env1 σ1 F2 H2 env2 σ2) : Stp K Tb F H env σ F2 H2 env2 σ2 := by
  refine ⟨a.mono.trans b.mono, fun x o e nt no => ?_, fun x e => a.dom x (b.dom x e), b.rs, fun x h => ?_⟩
  · obtain ⟨e1, f1⟩ := a.keep x o e nt no
    have no1 : ¬ Owned env1 σ1 x := fun h => by
      rcases a.sub x h with z | z
      · exact no z
      · rw [e] at z; cases z
    obtain ⟨e2, f2⟩ := b.keep x o e1 nt no1
    exact ⟨e2, fun z => f2 (f1 z)⟩
  · rcases b.sub x h with z | z
    · exact a.sub x z
    · exact .inr (a.dom x z)
theorem RS.fz (h : RS K Tb F H env σ) {i : Nat} {d : D} (e : env[i]? = some (.fz d)) : ∃ v, σ[i]? = some (some v) ∧ Dt K F v d := by
  obtain ⟨y, h1, h2⟩ := h.slot i _ e
  cases y with
  | none => exact False.elim h2
  | some v => exact ⟨v, h1, h2⟩
theorem RS.ow (h : RS K Tb F H env σ) {i : Nat} {t : Option Addr} {ds : List D} (e : env[i]? = some (.ow t ds)) : ∃ p vs, σ[i]? = some (some (.ref p)) ∧ F p = none ∧ H p = some (.lst vs) ∧ DtAll K F vs ds := by
  obtain ⟨y, h1, h2⟩ := h.slot i _ e
  match y, h2 with
  | some (.ref p), ⟨a, vs, b, c⟩ => exact ⟨p, vs, h1, a.2, b, c⟩
theorem RS.sq (h : RS K Tb F H env σ) {i : Nat} {ds : List D} (e : env[i]? = some (.sq ds)) : ∃ p vs, σ[i]? = some (some (.ref p)) ∧ SqL K F p vs ∧ DtAll K F vs ds := by
  obtain ⟨y, h1, h2⟩ := h.slot i _ e
  match y, h2 with
  | some (.ref p), ⟨vs, b, c⟩ => exact ⟨p, vs, h1, b, c⟩
theorem RS.owT (h : RS K Tb F H env σ) {i : Nat} {t : Option Addr} {ds : List D} {p : Addr} (e : env[i]? = some (.ow t ds)) (hs : σ[i]? = some (some (.ref p))) : ∀ q, t = some q → q = p := by
  obtain ⟨y, h1, h2⟩ := h.slot i _ e
  rw [hs] at h1
  cases h1
  exact h2.1.1
theorem RS.dk (h : RS K Tb F H env σ) {i : Nat} {kvs : List (Key × D)} (e : env[i]? = some (.dk kvs)) : ∃ p ws, σ[i]? = some (some (.ref p)) ∧ F p = none ∧ H p = some (.dK ws) ∧ DtK K F ws kvs := by
  obtain ⟨y, h1, h2⟩ := h.slot i _ e
  match y, h2 with
  | some (.ref p), ⟨a, ws, b, c⟩ => exact ⟨p, ws, h1, a, b, c⟩
theorem RS.ownF (h : RS K Tb F H env σ) {b : Addr} (o : Owned env σ b) : F b = none ∧ H b ≠ none := by
  obtain ⟨i, x, e, ho, hs⟩ := o
  cases x with
  | un => cases ho
  | fz d => cases ho
  | sq ds => cases ho
  | ow t ds =>
    obtain ⟨p, vs, h1, h2, h3, _⟩ := h.ow e
    rw [hs] at h1
    cases h1
    exact ⟨h2, by rw [h3]; simp⟩
  | dk kvs =>
    obtain ⟨p, vs, h1, h2, h3, _⟩ := h.dk e
    rw [hs] at h1
    cases h1
    exact ⟨h2, by rw [h3]; simp⟩
/-- a frozen thing is laid at a new place -/
theorem RS.new (h : RS K Tb F H env σ) {p : Addr} {o : HO} (hp : H p = none) (hn : NT o) : Stp K Tb F H env σ (upd F p o) (upd H p o) env σ := by
  have fp : F p = none := by
    cases e : F p with
    | none => rfl
    | some o => rw [h.wf.sub p o e] at hp; cases hp
  have mo : Mono F (upd F p o) := fun a u e => by rw [upd_ne (ne_of_none e fp)]; exact e
  have tp : ∀ P ∈ Tb, P ≠ p := fun P hP z => by
    obtain ⟨ps, e, _⟩ := h.wf.tabs P hP
    rw [z, hp] at e
    cases e
  refine ⟨mo, fun b u e nt no => ?_, fun b e => ?_, ⟨⟨fun a u e => ?_, fun a u e => ?_, fun P hP => ?_⟩, h.len, fun i x e => ?_, h.sep⟩, fun b h => .inl h⟩
  · have ne : b ≠ p := ne_of_none e hp
    exact ⟨by rw [upd_ne ne]; exact e, fun z => by rw [upd_ne ne]; exact z⟩
  · by_cases hb : b = p
    · rw [hb]; exact hp
    · rw [upd_ne hb] at e; exact e
  · by_cases ha : a = p
    · subst ha; rw [upd_same] at e ⊢; exact e
    · rw [upd_ne ha] at e ⊢; exact h.wf.sub a u e
  · by_cases ha : a = p
    · subst ha; rw [upd_same] at e; cases e; exact hn
    · rw [upd_ne ha] at e; exact h.wf.nt a u e
  · obtain ⟨ps, e, t⟩ := h.wf.tabs P hP
    exact ⟨ps, by rw [upd_ne (tp P hP)]; exact e, t⟩
  · obtain ⟨y, h1, h2⟩ := h.slot i x e
    refine ⟨y, h1, ?_⟩
    match x, y, h2 with
    | .un, _, _ => trivial
    | .fz d, some v, h2 => exact Dt.mono mo h2
    | .sq ds, some (.ref q), ⟨us, b, c⟩ => exact ⟨us, SqL.mono mo b, DtAll.mono mo c⟩
    | .ow tg ds, some (.ref q), ⟨⟨tq, a⟩, vs, b, c⟩ =>
      have ne : q ≠ p := ne_of_none b hp
      exact ⟨⟨tq, by rw [upd_ne ne]; exact a⟩, vs, by rw [upd_ne ne]; exact b, DtAll.mono mo c⟩
    | .dk kvs, some (.ref q), ⟨a, vs, b, c⟩ =>
      have ne : q ≠ p := ne_of_none b hp
      exact ⟨by rw [upd_ne ne]; exact a, vs, by rw [upd_ne ne]; exact b, DtK.mono mo c⟩
/-- the owned thing of slot i takes another content -/
theorem RS.put (h : RS K Tb F H env σ) {i : Nat} {x x' : SV} {p : Addr} {o : HO} (e : env[i]? = some x) (ho : x.own = true) (hs : σ[i]? = some (some (.ref p))) (ho' : x'.own = true) (hx : SlotOk K F (upd H p o) x' (some (.ref p))) :
    Stp K Tb F H env σ F (upd H p o) (env.set i x') σ := by
  have own : Owned env σ p := ⟨i, x, e, ho, hs⟩
  obtain ⟨fp, hp⟩ := h.ownF own
  have hi : i < env.length := (List.getElem?_eq_some_iff.mp e).1
  have at_ : ∀ j y, (env.set i x')[j]? = some y → (j = i ∧ y = x') ∨ (j ≠ i ∧ env[j]? = some y) := fun j y q => by
    by_cases hj : j = i
    · subst hj
      rw [List.getElem?_set_self hi] at q
      exact .inl ⟨rfl, (Option.some.inj q).symm⟩
    · rw [List.getElem?_set_ne (Ne.symm hj)] at q
      exact .inr ⟨hj, q⟩
  have notab : ∀ ps, H p ≠ some (.tbl ps) := fun ps q => by
    cases x with
    | un => cases ho
    | fz d => cases ho
    | sq ds => cases ho
    | ow t ds => obtain ⟨p', vs, h1, _, h3, _⟩ := h.ow e; rw [hs] at h1; cases h1; rw [q] at h3; cases h3
    | dk ds => obtain ⟨p', vs, h1, _, h3, _⟩ := h.dk e; rw [hs] at h1; cases h1; rw [q] at h3; cases h3
  refine ⟨Mono.refl, fun b u q nt no => ⟨?_, id⟩, fun b q => ?_, ⟨⟨fun a u q => ?_, h.wf.nt, fun P hP => ?_⟩, by rw [List.length_set]; exact h.len, fun j y q => ?_, fun j k y z q1 q2 o1 o2 q3 => ?_⟩, fun b q => .inl ?_⟩
  · rw [upd_ne (fun z => no (by rw [z]; exact own))]; exact q
  · by_cases hb : b = p
    · subst hb; rw [upd_same] at q; cases q
    · rw [upd_ne hb] at q; exact q
  · rw [upd_ne (ne_of_none q fp)]; exact h.wf.sub a u q
  · obtain ⟨ps, q, t⟩ := h.wf.tabs P hP
    exact ⟨ps, by rw [upd_ne (fun z => notab ps (by rw [← z]; exact q))]; exact q, t⟩
  · rcases at_ j y q with ⟨rfl, rfl⟩ | ⟨hj, q⟩
    · exact ⟨_, hs, hx⟩
    · obtain ⟨w, h1, h2⟩ := h.slot j y q
      refine ⟨w, h1, ?_⟩
      have nep : ∀ r, w = some (.ref r) → y.own = true → r ≠ p := fun r er oy z => by
        subst z
        exact hj (h.sep j i y x q e oy ho (by rw [h1, er, hs]))
      match y, w, h2 with
      | .un, _, _ => trivial
      | .fz d, some v, h2 => exact h2
      | .sq ds, some (.ref q), h2 => exact h2
      | .ow tg ds, some (.ref r), ⟨⟨tq, a⟩, vs, b, c⟩ => exact ⟨⟨tq, a⟩, vs, by rw [upd_ne (nep r rfl rfl)]; exact b, c⟩
      | .dk ds, some (.ref r), ⟨a, vs, b, c⟩ => exact ⟨a, vs, by rw [upd_ne (nep r rfl rfl)]; exact b, c⟩
  · rcases at_ j y q1 with ⟨ej, _⟩ | ⟨hj, q1'⟩
    · rcases at_ k z q2 with ⟨ek, _⟩ | ⟨hk, q2'⟩
      · rw [ej, ek]
      · rw [ej] at q3 ⊢
        exact h.sep _ _ x z e q2' ho o2 q3
    · rcases at_ k z q2 with ⟨ek, _⟩ | ⟨hk, q2'⟩
      · rw [ek] at q3 ⊢
        exact h.sep _ _ y x q1' e o1 ho q3
      · exact h.sep _ _ y z q1' q2' o1 o2 q3
  · obtain ⟨j, y, q1, q2, q3⟩ := q
    rcases at_ j y q1 with ⟨rfl, rfl⟩ | ⟨hj, q1⟩
    · exact ⟨j, x, e, ho, q3⟩
    · exact ⟨j, y, q1, q2, q3⟩
/-- slot i is stored: a datum that stands still -/
theorem RS.store (h : RS K Tb F H env σ) {i : Nat} {v : V} {d : D} (hi : i < env.length) (hv : Dt K F v d) : Stp K Tb F H env σ F H (env.set i (.fz d)) (σ.set i (some v)) := by
  have hi' : i < σ.length := by rw [← h.len]; exact hi
  have at_ : ∀ j y, (env.set i (.fz d))[j]? = some y → (j = i ∧ y = .fz d) ∨ (j ≠ i ∧ env[j]? = some y) := fun j y q => by
    by_cases hj : j = i
    · subst hj
      rw [List.getElem?_set_self hi] at q
      exact .inl ⟨rfl, (Option.some.inj q).symm⟩
    · rw [List.getElem?_set_ne (Ne.symm hj)] at q
      exact .inr ⟨hj, q⟩
  refine ⟨Mono.refl, fun b u q nt no => ⟨q, id⟩, fun b q => q, ⟨h.wf, by rw [List.length_set, List.length_set]; exact h.len, fun j y q => ?_, fun j k y z q1 q2 o1 o2 q3 => ?_⟩, fun b q => .inl ?_⟩
  · rcases at_ j y q with ⟨rfl, rfl⟩ | ⟨hj, q⟩
    · exact ⟨some v, List.getElem?_set_self hi', hv⟩
    · obtain ⟨w, h1, h2⟩ := h.slot j y q
      exact ⟨w, by rw [List.getElem?_set_ne (Ne.symm hj)]; exact h1, h2⟩
  · rcases at_ j y q1 with ⟨rfl, rfl⟩ | ⟨hj, q1⟩
    · cases o1
    · rcases at_ k z q2 with ⟨rfl, rfl⟩ | ⟨hk, q2⟩
      · cases o2
      · rw [List.getElem?_set_ne (Ne.symm hj), List.getElem?_set_ne (Ne.symm hk)] at q3
        exact h.sep _ _ y z q1 q2 o1 o2 q3
  · obtain ⟨j, y, q1, q2, q3⟩ := q
    rcases at_ j y q1 with ⟨rfl, rfl⟩ | ⟨hj, q1⟩
    · cases q2
    · rw [List.getElem?_set_ne (Ne.symm hj)] at q3
      exact ⟨j, y, q1, q2, q3⟩
/-- slot i is stored: a new thing that nothing else has -/
theorem RS.storeNew (h : RS K Tb F H env σ) {i : Nat} {p : Addr} {o : HO} {x : SV} (hi : i < env.length) (hp : H p = none) (hn : NT o) (ho : x.own = true) (hx : SlotOk K F (upd H p o) x (some (.ref p))) :
    Stp K Tb F H env σ F (upd H p o) (env.set i x) (σ.set i (some (.ref p))) := by
  have fp : F p = none := by
    cases e : F p with
    | none => rfl
    | some o => rw [h.wf.sub p o e] at hp; cases hp
  have hi' : i < σ.length := by rw [← h.len]; exact hi
  have at_ : ∀ j y, (env.set i x)[j]? = some y → (j = i ∧ y = x) ∨ (j ≠ i ∧ env[j]? = some y) := fun j y q => by
    by_cases hj : j = i
    · subst hj
      rw [List.getElem?_set_self hi] at q
      exact .inl ⟨rfl, (Option.some.inj q).symm⟩
    · rw [List.getElem?_set_ne (Ne.symm hj)] at q
      exact .inr ⟨hj, q⟩
  have old : ∀ (j : Nat) (y : SV) (w : Option V), env[j]? = some y → σ[j]? = some w → y.own = true → w ≠ some (.ref p) := fun j y w q hw oy z => by
    subst z
    exact (h.ownF (b := p) ⟨j, y, q, oy, hw⟩).2 hp
  refine ⟨Mono.refl, fun b u q nt no => ⟨?_, id⟩, fun b q => ?_, ⟨⟨fun a u q => ?_, h.wf.nt, fun P hP => ?_⟩, by rw [List.length_set, List.length_set]; exact h.len, fun j y q => ?_, fun j k y z q1 q2 o1 o2 q3 => ?_⟩, fun b q => ?_⟩
  · rw [upd_ne (ne_of_none q hp)]; exact q
  · by_cases hb : b = p
    · subst hb; exact hp
    · rw [upd_ne hb] at q; exact q
  · rw [upd_ne (ne_of_none q fp)]; exact h.wf.sub a u q
  · obtain ⟨ps, q, t⟩ := h.wf.tabs P hP
    exact ⟨ps, by rw [upd_ne (ne_of_none q hp)]; exact q, t⟩
  · rcases at_ j y q with ⟨rfl, rfl⟩ | ⟨hj, q⟩
    · exact ⟨_, List.getElem?_set_self hi', hx⟩
    · obtain ⟨w, h1, h2⟩ := h.slot j y q
      refine ⟨w, by rw [List.getElem?_set_ne (Ne.symm hj)]; exact h1, ?_⟩
      match y, w, h2 with
      | .un, _, _ => trivial
      | .fz d, some v, h2 => exact h2
      | .sq ds, some (.ref q), h2 => exact h2
      | .ow tg ds, some (.ref r), ⟨⟨tq, a⟩, vs, b, c⟩ => exact ⟨⟨tq, a⟩, vs, by rw [upd_ne (ne_of_none b hp)]; exact b, c⟩
      | .dk ds, some (.ref r), ⟨a, vs, b, c⟩ => exact ⟨a, vs, by rw [upd_ne (ne_of_none b hp)]; exact b, c⟩
  · rcases at_ j y q1 with ⟨ej, _⟩ | ⟨hj, q1'⟩
    · rcases at_ k z q2 with ⟨ek, _⟩ | ⟨hk, q2'⟩
      · rw [ej, ek]
      · rw [ej, List.getElem?_set_self hi', List.getElem?_set_ne (Ne.symm hk)] at q3
        exact absurd rfl (old k z _ q2' q3.symm o2)
    · rcases at_ k z q2 with ⟨ek, _⟩ | ⟨hk, q2'⟩
      · rw [ek, List.getElem?_set_self hi', List.getElem?_set_ne (Ne.symm hj)] at q3
        exact absurd rfl (old j y _ q1' q3 o1)
      · rw [List.getElem?_set_ne (Ne.symm hj), List.getElem?_set_ne (Ne.symm hk)] at q3
        exact h.sep _ _ y z q1' q2' o1 o2 q3
  · obtain ⟨j, y, q1, q2, q3⟩ := q
    rcases at_ j y q1 with ⟨rfl, rfl⟩ | ⟨hj, q1⟩
    · rw [List.getElem?_set_self hi'] at q3
      cases q3
      exact .inr hp
    · rw [List.getElem?_set_ne (Ne.symm hj)] at q3
      exact .inl ⟨j, y, q1, q2, q3⟩
/-- the list of slot i stands still from here on -/
theorem RS.freeze (h : RS K Tb F H env σ) {i : Nat} {t : Option Addr} {ds : List D} (e : env[i]? = some (.ow t ds)) :
    ∃ p vs, σ[i]? = some (some (.ref p)) ∧ H p = some (.lst vs) ∧ Stp K Tb F H env σ (upd F p (.lst vs)) H (env.set i (.fz (.list ds))) σ ∧ Dt K (upd F p (.lst vs)) (.ref p) (.list ds) := by
  obtain ⟨p, vs, hs, fp, hp, hd⟩ := h.ow e
  have own : Owned env σ p := ⟨i, _, e, rfl, hs⟩
  have hi : i < env.length := (List.getElem?_eq_some_iff.mp e).1
  have mo : Mono F (upd F p (.lst vs)) := fun a u q => by rw [upd_ne (ne_of_none q fp)]; exact q
  have dp : Dt K (upd F p (.lst vs)) (.ref p) (.list ds) := .lst upd_same (DtAll.mono mo hd)
  have at_ : ∀ j y, (env.set i (.fz (.list ds)))[j]? = some y → (j = i ∧ y = .fz (.list ds)) ∨ (j ≠ i ∧ env[j]? = some y) := fun j y q => by
    by_cases hj : j = i
    · subst hj
      rw [List.getElem?_set_self hi] at q
      exact .inl ⟨rfl, (Option.some.inj q).symm⟩
    · rw [List.getElem?_set_ne (Ne.symm hj)] at q
      exact .inr ⟨hj, q⟩
  refine ⟨p, vs, hs, hp, ⟨mo, fun b u q nt no => ⟨q, fun z => ?_⟩, fun b q => q, ⟨⟨fun a u q => ?_, fun a u q => ?_, h.wf.tabs⟩, by rw [List.length_set]; exact h.len, fun j y q => ?_, fun j k y z q1 q2 o1 o2 q3 => ?_⟩, fun b q => .inl ?_⟩, dp⟩
  · rw [upd_ne (fun y => no (by rw [y]; exact own))]; exact z
  · by_cases ha : a = p
    · subst ha; rw [upd_same] at q; cases q; exact hp
    · rw [upd_ne ha] at q; exact h.wf.sub a u q
  · by_cases ha : a = p
    · subst ha; rw [upd_same] at q; cases q; exact fun ps z => by cases z
    · rw [upd_ne ha] at q; exact h.wf.nt a u q
  · rcases at_ j y q with ⟨rfl, rfl⟩ | ⟨hj, q⟩
    · exact ⟨_, hs, dp⟩
    · obtain ⟨w, h1, h2⟩ := h.slot j y q
      refine ⟨w, h1, ?_⟩
      have nep : ∀ r, w = some (.ref r) → y.own = true → r ≠ p := fun r er oy z => by
        subst z
        exact hj (h.sep j i y _ q e oy rfl (by rw [h1, er, hs]))
      match y, w, h2 with
      | .un, _, _ => trivial
      | .fz d, some v, h2 => exact Dt.mono mo h2
      | .sq ds, some (.ref q), ⟨us, b, c⟩ => exact ⟨us, SqL.mono mo b, DtAll.mono mo c⟩
      | .ow tg es, some (.ref r), ⟨⟨tq, a⟩, us, b, c⟩ => exact ⟨⟨tq, by rw [upd_ne (nep r rfl rfl)]; exact a⟩, us, b, DtAll.mono mo c⟩
      | .dk es, some (.ref r), ⟨a, us, b, c⟩ => exact ⟨by rw [upd_ne (nep r rfl rfl)]; exact a, us, b, DtK.mono mo c⟩
  · rcases at_ j y q1 with ⟨rfl, rfl⟩ | ⟨hj, q1⟩
    · cases o1
    · rcases at_ k z q2 with ⟨rfl, rfl⟩ | ⟨hk, q2⟩
      · cases o2
      · exact h.sep _ _ y z q1 q2 o1 o2 q3
  · obtain ⟨j, y, q1, q2, q3⟩ := q
    rcases at_ j y q1 with ⟨rfl, rfl⟩ | ⟨hj, q1⟩
    · cases q2
    · exact ⟨j, y, q1, q2, q3⟩
/-- slots may be forgotten -/
def Fgt (env env' : Ev) : Prop := env'.length = env.length ∧ ∀ (i : Nat) x, env'[i]? = some x → x = .un ∨ env[i]? = some x
theorem RS.forget (h : RS K Tb F H env σ) (f : Fgt env env') : Stp K Tb F H env σ F H env' σ := by
  refine ⟨Mono.refl, fun b u q nt no => ⟨q, id⟩, fun b q => q, ⟨h.wf, f.1.trans h.len, fun j y q => ?_, fun j k y z q1 q2 o1 o2 q3 => ?_⟩, fun b q => .inl ?_⟩
  · rcases f.2 j y q with rfl | q'
    · have hj : j < σ.length := by rw [← h.len, ← f.1]; exact (List.getElem?_eq_some_iff.mp q).1
      exact ⟨σ[j], List.getElem?_eq_getElem hj, trivial⟩
    · exact h.slot j y q'
  · rcases f.2 j y q1 with rfl | q1
    · cases o1
    · rcases f.2 k z q2 with rfl | q2
      · cases o2
      · exact h.sep _ _ y z q1 q2 o1 o2 q3
  · obtain ⟨j, y, q1, q2, q3⟩ := q
    rcases f.2 j y q1 with rfl | q1
    · cases q2
    · exact ⟨j, y, q1, q2, q3⟩
end
end DL

namespace DL
open PySem PySem.Spec PyProof.Rows L2 GxR
/-! ### readings over data -/
section
variable (K : PySem.W.Frag) (Tb : List Addr)
def tD (f : EM D) : TE := fun σ H Q => ∃ env d env' F, f env = some (d, env') ∧ RS K Tb F H env σ ∧ ∀ F' H' v, Stp K Tb F H env σ F' H' env' σ → Dt K F' v d → Q v H'
def tDT (f : EM Bool) : TT := fun σ H Q => ∃ env b env' F, f env = some (b, env') ∧ RS K Tb F H env σ ∧ ∀ F' H', Stp K Tb F H env σ F' H' env' σ → Q b H'
def tDA (f : EM (List D)) : TA := fun σ H Q => ∃ env ds env' F, f env = some (ds, env') ∧ RS K Tb F H env σ ∧ ∀ F' H' vs, Stp K Tb F H env σ F' H' env' σ → DtAll K F' vs ds → Q vs H'
/-- a new list that nothing else has -/
def tNew (f : EM (List D)) : TE := fun σ H Q => ∃ env ds env' F, f env = some (ds, env') ∧ RS K Tb F H env σ ∧
  ∀ F' H' p vs, Stp K Tb F H env σ F' H' env' σ → H p = none → F' p = none → H' p = some (.lst vs) → ¬ Owned env' σ p → DtAll K F' vs ds → Q (.ref p) H'
end
inductive Fl where
  | nx (e : Ev)
  | rt (d : D) (e : Ev)
  | bk (e : Ev)
  | ct (e : Ev)
def Fl.env : Fl → Ev
  | .nx e => e
  | .rt _ e => e
  | .bk e => e
  | .ct e => e
def Fl.ends (K : PySem.W.Frag) (E : Ends) (F' H' : Hp) (σ' : L2.St) : Fl → Prop
  | .nx _ => E.nx σ' H'
  | .rt d _ => ∀ v, Dt K F' v d → E.rt v H'
  | .bk _ => E.bk σ' H'
  | .ct _ => E.ct σ' H'
abbrev SM := Ev → (Fl → Prop) → Prop
def tDS (K : PySem.W.Frag) (Tb : List Addr) (s : SM) : TS := fun E σ H => ∃ env F Φ, s env Φ ∧ RS K Tb F H env σ ∧ ∀ fl, Φ fl → ∀ F' H' σ', Stp K Tb F H env σ F' H' fl.env σ' → fl.ends K E F' H' σ'

section
variable {X : Cx} {K : PySem.W.Frag} {Tb : List Addr}
theorem pe_imp {e : Expr} {t t' : TE} (h : PE X e t) (i : ∀ σ H Q, t' σ H Q → t σ H Q) : PE X e t' := ⟨fun pins s σ H Q I q => h.run pins s σ H Q I (i σ H Q q)⟩
theorem pt_imp {e : Expr} {t t' : TT} (h : PT X e t) (i : ∀ σ H Q, t' σ H Q → t σ H Q) : PT X e t' := ⟨fun pins s σ H Q I q => h.run pins s σ H Q I (i σ H Q q)⟩
theorem pw_imp {e : Expr} {t t' : TT} (h : PW X e t) (i : ∀ σ H Q, t' σ H Q → t σ H Q) : PW X e t' := ⟨fun w pins s σ H Q I q => h.run w pins s σ H Q I (i σ H Q q)⟩
theorem pa_imp {e : List Expr} {t t' : TA} (h : PA X e t) (i : ∀ σ H Q, t' σ H Q → t σ H Q) : PA X e t' := ⟨fun pos pins s σ H Q I q => h.run pos pins s σ H Q I (i σ H Q q)⟩
theorem ps_imp {e : Stmt} {t t' : TS} (h : PS X e t) (i : ∀ σ H Q, t' Q σ H → t Q σ H) : PS X e t' := ⟨fun pins s σ H Q I q => h.run pins s σ H Q I (i σ H Q q)⟩
theorem pss_imp {e : List Stmt} {t t' : TS} (h : PSs X e t) (i : ∀ σ H Q, t' Q σ H → t Q σ H) : PSs X e t' := ⟨fun pins s σ H Q I q => h.run pins s σ H Q I (i σ H Q q)⟩

/-! ### laying -/
/-- a value is handed out: as it stands, or a new thing -/
def Lay (F H F' H' : Hp) : Prop := (F' = F ∧ H' = H) ∨ ∃ p o, H p = none ∧ NT o ∧ F' = upd F p o ∧ H' = upd H p o
theorem RS.lay {F H F' H' : Hp} {env : Ev} {σ : L2.St} (h : RS K Tb F H env σ) (l : Lay F H F' H') : Stp K Tb F H env σ F' H' env σ := by
  rcases l with ⟨rfl, rfl⟩ | ⟨p, o, h1, h2, rfl, rfl⟩
  · exact Stp.refl h
  · exact RS.new h h1 h2
theorem nt_tup {xs : List V} : NT (.tup xs) := fun _ z => by cases z
theorem nt_lst {xs : List V} : NT (.lst xs) := fun _ z => by cases z
theorem lay_none {F H : Hp} {env : Ev} {σ : L2.St} (h : RS K Tb F H env σ) {p : Addr} (hp : H p = none) : F p = none := by
  cases e : F p with
  | none => rfl
  | some o => rw [h.wf.sub p o e] at hp; cases hp
theorem Mono.upd {F : Hp} {p : Addr} {o : HO} (h : F p = none) : Mono F (upd F p o) := fun a u q => by rw [upd_ne (ne_of_none q h)]; exact q
/-- rules by data: the operands, the result -/
def rD (K : PySem.W.Frag) (g : D → D → Option D) : R2 := fun x y H Q => ∃ F d e z, Mono F H ∧ Dt K F x d ∧ Dt K F y e ∧ g d e = some z ∧ ∀ F' H' v, Lay F H F' H' → Dt K F' v z → Q v H'
def OpD (X : Cx) (f : Value → Value → Sem Value) (g : D → D → Option D) : Prop := OpR X f (rD X.K g)
theorem Mono.fnone {F H : Hp} (m : Mono F H) {p : Addr} (hp : H p = none) : F p = none := by
  cases e : F p with
  | none => rfl
  | some o => rw [m p o e] at hp; cases hp
theorem Mono.of_upd {F H : Hp} (m : Mono F H) {p : Addr} {o : HO} : Mono (L2.upd F p o) (L2.upd H p o) := fun a u e => by
  by_cases ha : a = p
  · subst ha; rw [upd_same] at e ⊢; exact e
  · rw [upd_ne ha] at e ⊢; exact m a u e

/-! ### expressions: names and constants -/
def eC (d : D) : EM D := fun env => some (d, env)
def eV (i : Nat) : EM D := fun env => match env[i]? with
  | some (.fz d) => some (d, env)
  | some (.ow _ ds) => some (.list ds, env.set i (.fz (.list ds)))
  | _ => none
def eB (g : D → D → Option D) (a b : EM D) : EM D := fun env => match a env with
  | some (x, e1) => match b e1 with
    | some (y, e2) => match g x y with
      | some z => some (z, e2)
      | none => none
    | none => none
  | none => none
def eU (g : D → Option D) (a : EM D) : EM D := fun env => match a env with
  | some (x, e1) => match g x with
    | some z => some (z, e1)
    | none => none
  | none => none
theorem d_var {i : Nat} {x : Str} {pos : Pos} (h : PE X (.Name x pos) (tVar i)) : PE X (.Name x pos) (tD X.K Tb (eV i)) := pe_imp h fun σ H Q ⟨env, d, env', F, hf, R, k⟩ => by
  unfold eV at hf
  split at hf
  · rename_i d' e
    cases hf
    obtain ⟨v, h1, h2⟩ := R.fz e
    exact ⟨v, h1, k F H v (Stp.refl R) h2⟩
  · rename_i tg ds e
    cases hf
    obtain ⟨p, vs, h1, h2, h3, h4⟩ := RS.freeze R e
    exact ⟨.ref p, h1, k _ H _ h3 h4⟩
  · cases hf
theorem d_const {e : Expr} {v : V} {d : D} (h : PE X e (tC v)) (hd : ∀ F, Dt X.K F v d) : PE X e (tD X.K Tb (eC d)) := pe_imp h fun σ H Q ⟨env, d, env', F, hf, R, k⟩ => by
  cases hf
  exact k F H v (Stp.refl R) (hd F)
theorem d_int {i j pos} : PE X (.Constant (.int i) j pos) (tD X.K Tb (eC (.int i))) := d_const pe_int fun _ => .int _
theorem d_bl {b j pos} : PE X (.Constant (.bool b) j pos) (tD X.K Tb (eC (.bool b))) := d_const pe_bl fun _ => .bl _
theorem d_non {j pos} : PE X (.Constant .none j pos) (tD X.K Tb (eC .none)) := d_const pe_non fun _ => .non
theorem d_str {x j pos} : PE X (.Constant (.str x) j pos) (tD X.K Tb (eC (.str x))) := d_const pe_str fun _ => .str _
section
variable {a b : Expr} {fa fb : EM D} {pos : Pos}
theorem run2 {r : R2} {g : D → D → Option D} (hr : ∀ x y H Q, rD K g x y H Q → r x y H Q) {σ : L2.St} {H : Hp} {Q : VK} (h : tD K Tb (eB g fa fb) σ H Q) : tOp r (tD K Tb fa) (tD K Tb fb) σ H Q := by
  obtain ⟨env, d, env', F, hf, R, k⟩ := h
  unfold eB at hf
  split at hf
  · rename_i x e1 ha
    split at hf
    · rename_i y e2 hb
      split at hf
      · rename_i z hz
        cases hf
        refine ⟨env, x, e1, F, ha, R, fun F1 H1 v S1 D1 => ⟨e1, y, _, F1, hb, S1.rs, fun F2 H2 u S2 D2 => hr _ _ _ _ ⟨F2, x, y, d, S2.rs.wf.sub, Dt.mono S2.mono D1, D2, hz, fun F3 H3 w l dw => ?_⟩⟩⟩
        exact k F3 H3 w ((S1.trans S2).trans (RS.lay S2.rs l)) dw
      · cases hf
    · cases hf
  · cases hf
theorem d_bin {op : Operator} {g : D → D → Option D} (ho : OpD X (binaryOp op) g) (ha : PE X a (tD X.K Tb fa)) (hb : PE X b (tD X.K Tb fb)) : PE X (.BinOp a op b pos) (tD X.K Tb (eB g fa fb)) :=
  pe_imp (pe_op ho ha hb) fun σ H Q h => run2 (fun _ _ _ _ h => h) h
theorem d_cmp {op : CmpOp} {g : D → D → Option D} (ho : OpD X (compareOp op) g) (ha : PE X a (tD X.K Tb fa)) (hb : PE X b (tD X.K Tb fb)) (hm : behindInMarks op b = false) : PE X (.Compare a [op] [b] pos) (tD X.K Tb (eB g fa fb)) :=
  pe_imp (pe_cmpR ho ha hb hm) fun σ H Q h => run2 (fun _ _ _ _ h => h) h
/-- one operand -/
def rDU (K : PySem.W.Frag) (g : D → Option D) : V → Hp → VK → Prop := fun x H Q => ∃ F d z, Mono F H ∧ Dt K F x d ∧ g d = some z ∧ ∀ F' H' v, Lay F H F' H' → Dt K F' v z → Q v H'
theorem run1 {r : V → Hp → VK → Prop} {g : D → Option D} (hr : ∀ x H Q, rDU K g x H Q → r x H Q) {σ : L2.St} {H : Hp} {Q : VK} (h : tD K Tb (eU g fa) σ H Q) : tUn r (tD K Tb fa) σ H Q := by
  obtain ⟨env, d, env', F, hf, R, k⟩ := h
  unfold eU at hf
  split at hf
  · rename_i x e1 ha
    split at hf
    · rename_i z hz
      cases hf
      exact ⟨env, x, _, F, ha, R, fun F1 H1 v S1 D1 => hr _ _ _ ⟨F1, x, d, S1.rs.wf.sub, D1, hz, fun F3 H3 w l dw => k F3 H3 w (S1.trans (RS.lay S1.rs l)) dw⟩⟩
    · cases hf
  · cases hf
theorem d_un {op : UnaryOp} {g : D → Option D} (ho : UnR X (unaryOp op) (rDU X.K g)) (ha : PE X a (tD X.K Tb fa)) : PE X (.UnaryOp op a pos) (tD X.K Tb (eU g fa)) :=
  pe_imp (pe_un ho ha) fun σ H Q h => run1 (fun _ _ _ h => h) h
end
def dNeg : D → Option D
  | .int i => some (.int (-i))
  | _ => none
theorem un_negD : UnR X (unaryOp .USub) (rDU X.K dNeg) := by
  intro pins s σ H x v Q I r h
  obtain ⟨F, d, z, m, dx, hg, k⟩ := h
  cases dx <;> simp only [dNeg] at hg <;> try cases hg
  exact un_neg pins s σ H _ v Q I r ⟨_, rfl, k F H _ (.inl ⟨rfl, rfl⟩) (.int _)⟩

/-! ### operators -/
theorem opD_of {f : Value → Value → Sem Value} {r : R2} {g : D → D → Option D} (ho : OpR X f r) (h : ∀ x y H Q, rD X.K g x y H Q → r x y H Q) : OpD X f g :=
  fun pins s σ H x y v u Q I rx ry q => ho pins s σ H x y v u Q I rx ry (h _ _ _ _ q)
def d2I (g : Int → Int → Option D) : D → D → Option D
  | .int i, .int j => g i j
  | _, _ => none
def dSub := d2I fun i j => some (.int (i - j))
def dMulI := d2I fun i j => if (-(2 ^ 64) < i ∧ i < 2 ^ 64) ∨ (-(2 ^ 64) < j ∧ j < 2 ^ 64) then some (.int (i * j)) else none
def dDiv := d2I fun i j => if 0 < j ∧ j < 1073741824 then some (.int (i / j)) else none
def dModI := d2I fun i j => if 0 < j then some (.int (i % j)) else none
def dAdd : D → D → Option D
  | .int i, .int j => some (.int (i + j))
  | .str x, .str y => if x.length + y.length ≤ sizeLine then some (.str (x ++ y)) else none
  | .list xs, .list ys => if xs.length + ys.length ≤ sizeLine then some (.list (xs ++ ys)) else none
  | .tuple xs, .tuple ys => if xs.length + ys.length ≤ sizeLine then some (.tuple (xs ++ ys)) else none
  | _, _ => none
theorem d2I_some {g : Int → Int → Option D} {d e : D} {z : D} (h : d2I g d e = some z) : ∃ i j, d = .int i ∧ e = .int j ∧ g i j = some z := by
  cases d <;> cases e <;> simp only [d2I] at h <;> first | exact ⟨_, _, rfl, rfl, h⟩ | cases h
theorem Dt.int_inv {F : Hp} {v : V} {i : Int} (h : Dt K F v (.int i)) : v = .int i := by cases h; rfl
theorem Dt.bl_inv {F : Hp} {v : V} {i : Bool} (h : Dt K F v (.bool i)) : v = .bl i := by cases h; rfl
theorem Dt.str_inv {F : Hp} {v : V} {i : Str} (h : Dt K F v (.str i)) : v = .str i := by cases h; rfl
theorem Dt.list_inv {F : Hp} {v : V} {ds : List D} (h : Dt K F v (.list ds)) : ∃ a xs, v = .ref a ∧ F a = some (.lst xs) ∧ DtAll K F xs ds := by cases h with | lst a b => exact ⟨_, _, rfl, a, b⟩
theorem Dt.tup_inv {F : Hp} {v : V} {ds : List D} (h : Dt K F v (.tuple ds)) : ∃ a xs, v = .ref a ∧ SqT K F a xs ∧ DtAll K F xs ds := by cases h with | tup a b => exact ⟨_, _, rfl, a, b⟩
theorem o_sub : OpD X (binaryOp .Sub) dSub := opD_of op_sub fun x y H Q ⟨F, d, e, z, m, dx, dy, hg, k⟩ => by
  obtain ⟨i, j, rfl, rfl, hg⟩ := d2I_some hg
  cases hg; rw [Dt.int_inv dx, Dt.int_inv dy]
  exact ⟨i, j, rfl, rfl, k F H _ (.inl ⟨rfl, rfl⟩) (.int _)⟩
theorem o_mulI : OpD X (binaryOp .Mult) dMulI := opD_of op_mul fun x y H Q ⟨F, d, e, z, m, dx, dy, hg, k⟩ => by
  obtain ⟨i, j, rfl, rfl, hq⟩ := d2I_some hg
  clear hg
  revert hq
  intro hg
  split at hg
  · rename_i hc
    cases hg; rw [Dt.int_inv dx, Dt.int_inv dy]
    exact ⟨i, j, rfl, rfl, hc, k F H _ (.inl ⟨rfl, rfl⟩) (.int _)⟩
  · cases hg
theorem o_div : OpD X (binaryOp .FloorDiv) dDiv := opD_of op_fdiv fun x y H Q ⟨F, d, e, z, m, dx, dy, hg, k⟩ => by
  obtain ⟨i, j, rfl, rfl, hq⟩ := d2I_some hg
  clear hg
  revert hq
  intro hg
  split at hg
  · rename_i hc
    cases hg; rw [Dt.int_inv dx, Dt.int_inv dy]
    exact ⟨i, j, rfl, rfl, hc, k F H _ (.inl ⟨rfl, rfl⟩) (.int _)⟩
  · cases hg
theorem o_modI : OpD X (binaryOp .Mod) dModI := opD_of op_mod fun x y H Q ⟨F, d, e, z, m, dx, dy, hg, k⟩ => by
  obtain ⟨i, j, rfl, rfl, hq⟩ := d2I_some hg
  clear hg
  revert hq
  intro hg
  split at hg
  · rename_i hc
    cases hg; rw [Dt.int_inv dx, Dt.int_inv dy]
    exact ⟨i, j, rfl, rfl, hc, k F H _ (.inl ⟨rfl, rfl⟩) (.int _)⟩
  · cases hg
theorem DtAll.nil_inv {F : Hp} {xs : List V} (h : DtAll K F xs []) : xs = [] := by cases h; rfl
theorem DtAll.nil_inv' {F : Hp} {ds : List D} (h : DtAll K F [] ds) : ds = [] := by cases h; rfl
theorem o_add : OpD X (binaryOp .Add) dAdd := opD_of (((op_add.or op_add_str).or op_cat).or op_catA) fun x y H Q ⟨F, d, e, z, m, dx, dy, hg, k⟩ => by
  have here : ∀ v, Dt X.K F v z → Q v H := fun v hv => k F H v (.inl ⟨rfl, rfl⟩) hv
  cases d <;> cases e <;> simp only [dAdd] at hg <;> try cases hg
  · rw [Dt.int_inv dx, Dt.int_inv dy]
    exact .inl (.inl (.inl ⟨_, _, rfl, rfl, here _ (.int _)⟩))
  · split at hg
    · rename_i hc
      cases hg; rw [Dt.str_inv dx, Dt.str_inv dy]
      exact .inl (.inl (.inr ⟨_, _, rfl, rfl, hc, here _ (.str _)⟩))
    · cases hg
  · split at hg
    · rename_i hc
      cases hg
      obtain ⟨a, xs, rfl, h1, h2⟩ := Dt.list_inv dx
      obtain ⟨b, ys, rfl, h3, h4⟩ := Dt.list_inv dy
      refine .inl (.inr ⟨a, b, xs, ys, rfl, rfl, m _ _ h1, m _ _ h3, by rw [DtAll.length h2, DtAll.length h4]; exact hc, fun p hp => k _ _ _ (.inr ⟨p, _, hp, nt_lst, rfl, rfl⟩) ?_⟩)
      have mo := Mono.upd (o := .lst (xs ++ ys)) (m.fnone hp)
      exact .lst upd_same (DtAll.append (DtAll.mono mo h2) (DtAll.mono mo h4))
    · cases hg
  · split at hg
    · rename_i hc
      cases hg
      obtain ⟨a, xs, rfl, h1, h2⟩ := Dt.tup_inv dx
      obtain ⟨b, ys, rfl, h3, h4⟩ := Dt.tup_inv dy
      refine .inr ⟨a, b, xs, ys, rfl, rfl, SqT.mono m h1, SqT.mono m h3, by rw [DtAll.length h2, DtAll.length h4]; exact hc, fun e => ?_, fun _ e => ?_, fun _ _ p hp => k _ _ _ (.inr ⟨p, _, hp, nt_tup, rfl, rfl⟩) ?_⟩
      · subst e
        have e := DtAll.nil_inv' h2
        subst e
        exact here _ (.tup h3 h4)
      · subst e
        have e := DtAll.nil_inv' h4
        subst e
        exact here _ (by rw [List.append_nil]; exact .tup h1 h2)
      · have mo := Mono.upd (o := .tup (xs ++ ys)) (m.fnone hp)
        exact .tup (SqT.of upd_same) (DtAll.append (DtAll.mono mo h2) (DtAll.mono mo h4))
    · cases hg
/-! comparisons -/
def dCmp (p : Int → Int → Bool) := d2I fun i j => some (.bool (p i j))
theorem o_cmpI {op : CmpOp} {p : Int → Int → Bool} (ho : OpR X (compareOp op) (rI0 fun i j => .bl (p i j))) : OpD X (compareOp op) (dCmp p) := opD_of ho fun x y H Q ⟨F, d, e, z, m, dx, dy, hg, k⟩ => by
  obtain ⟨i, j, rfl, rfl, hg⟩ := d2I_some hg
  cases hg; rw [Dt.int_inv dx, Dt.int_inv dy]
  exact ⟨i, j, rfl, rfl, k F H _ (.inl ⟨rfl, rfl⟩) (.bl _)⟩
def dLt := dCmp fun i j => decide (i < j)
def dLe := dCmp fun i j => decide (i ≤ j)
def dGt := dCmp fun i j => decide (j < i)
def dGe := dCmp fun i j => decide (j ≤ i)
theorem o_ltI : OpD X (compareOp .Lt) dLt := o_cmpI op_lt
theorem o_leI : OpD X (compareOp .LtE) dLe := o_cmpI op_le
theorem o_gtI : OpD X (compareOp .Gt) dGt := o_cmpI op_gt
theorem o_geI : OpD X (compareOp .GtE) dGe := o_cmpI op_ge
def dEq (d e : D) : Option D := if SeqAt.shaped d && SeqAt.shaped e then some (.bool (PyData.eqv d e)) else none
def dNe (d e : D) : Option D := if SeqAt.shaped d && SeqAt.shaped e then some (.bool (!PyData.eqv d e)) else none
theorem o_eq (hu : X.A.units + 64 < cLine) : OpD X (compareOp .Eq) dEq := opD_of (op_eqD hu) fun x y H Q ⟨F, d, e, z, m, dx, dy, hg, k⟩ => by
  unfold dEq at hg
  split at hg
  · rename_i hs
    rw [Bool.and_eq_true] at hs
    cases hg
    exact ⟨d, e, Dt.toDp (Dt.mono m dx), Dt.toDp (Dt.mono m dy), hs.1, hs.2, k F H _ (.inl ⟨rfl, rfl⟩) (.bl _)⟩
  · cases hg
theorem o_ne (hu : X.A.units + 64 < cLine) : OpD X (compareOp .NotEq) dNe := opD_of (op_neD hu) fun x y H Q ⟨F, d, e, z, m, dx, dy, hg, k⟩ => by
  unfold dNe at hg
  split at hg
  · rename_i hs
    rw [Bool.and_eq_true] at hs
    cases hg
    exact ⟨d, e, Dt.toDp (Dt.mono m dx), Dt.toDp (Dt.mono m dy), hs.1, hs.2, k F H _ (.inl ⟨rfl, rfl⟩) (.bl _)⟩
  · cases hg
/-- is, is not: of None, True, False -/
def dIs : D → D → Option D
  | .none, .none => some (.bool true)
  | _, .none => some (.bool false)
  | .bool a, .bool b => some (.bool (decide (a = b)))
  | _, _ => none
def dNot : D → Option D
  | .bool b => some (.bool (!b))
  | _ => none
def dIsNot (d e : D) : Option D := (dIs d e).bind dNot
theorem Dt.non_iff {F : Hp} {v : V} {d : D} (h : Dt K F v d) : decide (v = .non) = (match d with | .none => true | _ => false) := by
  cases h <;> simp
theorem o_is : OpD X (compareOp .Is) dIs := opD_of (op_isN.or op_isBl) fun x y H Q ⟨F, d, e, z, m, dx, dy, hg, k⟩ => by
  have here : ∀ b, z = .bool b → Q (.bl b) H := fun b hb => k F H _ (.inl ⟨rfl, rfl⟩) (by rw [hb]; exact .bl b)
  cases e with
  | none =>
    cases dy
    refine .inl ⟨rfl, ?_⟩
    rw [Dt.non_iff dx]
    cases d <;> simp only [dIs] at hg <;> cases hg <;> exact here _ rfl
  | bool b =>
    cases d <;> simp only [dIs] at hg <;> try cases hg
    rw [Dt.bl_inv dx, Dt.bl_inv dy]
    exact .inr ⟨_, _, rfl, rfl, here _ rfl⟩
  | _ => cases d <;> simp only [dIs] at hg <;> cases hg
theorem o_isNot : OpD X (compareOp .IsNot) dIsNot := opD_of (op_notN.or op_notBl) fun x y H Q ⟨F, d, e, z, m, dx, dy, hg, k⟩ => by
  have here : ∀ b, z = .bool b → Q (.bl b) H := fun b hb => k F H _ (.inl ⟨rfl, rfl⟩) (by rw [hb]; exact .bl b)
  unfold dIsNot at hg
  cases e with
  | none =>
    cases dy
    refine .inl ⟨rfl, ?_⟩
    rw [Dt.non_iff dx]
    cases d <;> simp only [dIs, dNot, Option.bind] at hg <;> cases hg <;> exact here _ rfl
  | bool b =>
    cases d <;> simp only [dIs, dNot, Option.bind] at hg <;> try cases hg
    rw [Dt.bl_inv dx, Dt.bl_inv dy]
    exact .inr ⟨_, _, rfl, rfl, here _ rfl⟩
  | _ => cases d <;> simp only [dIs, Option.bind] at hg <;> cases hg
end
end DL

namespace DL
open PySem PySem.Spec PyProof.Rows L2 GxR
section
variable {X : Cx} {K : PySem.W.Frag} {Tb : List Addr}
/-! ### and, or, not, if, tests -/
def eAnd (a b : EM D) : EM D := fun env => match a env with
  | some (.bool true, e1) => b e1
  | some (.bool false, e1) => some (.bool false, e1)
  | _ => none
def eOr (a b : EM D) : EM D := fun env => match a env with
  | some (.bool true, e1) => some (.bool true, e1)
  | some (.bool false, e1) => b e1
  | _ => none
def tE (f : EM D) : EM Bool := fun env => match f env with
  | some (.bool b, e) => some (b, e)
  | _ => none
def tAnd (a b : EM Bool) : EM Bool := fun env => match a env with
  | some (true, e1) => b e1
  | some (false, e1) => some (false, e1)
  | none => none
def tOr (a b : EM Bool) : EM Bool := fun env => match a env with
  | some (true, e1) => some (true, e1)
  | some (false, e1) => b e1
  | none => none
def tNot (a : EM Bool) : EM Bool := fun env => match a env with
  | some (b, e1) => some (!b, e1)
  | none => none
def eIf (c : EM Bool) (a b : EM D) : EM D := fun env => match c env with
  | some (true, e1) => a e1
  | some (false, e1) => b e1
  | none => none
section
variable {a b : Expr} {rest : List Expr} {pos : Pos} {fa fb : EM D} {ga gb : EM Bool}
/-- one part that hands on -/
theorem tD_step {f : EM D} {σ : L2.St} {H : Hp} {Q : VK} {F : Hp} {env1 env' : Ev} {x : D} {H0 F0 : Hp} {env0 : Ev} (h : f env1 = some (x, env')) (S : Stp K Tb F0 H0 env0 σ F H env1 σ) (k : ∀ F' H' v, Stp K Tb F0 H0 env0 σ F' H' env' σ → Dt K F' v x → Q v H') : tD K Tb f σ H Q :=
  ⟨env1, x, env', F, h, S.rs, fun F' H' v S' D' => k F' H' v (S.trans S') D'⟩
theorem d_and (ha : PE X a (tD X.K Tb fa)) (hb : PE X (.BoolOp .And (b :: rest) pos) (tD X.K Tb fb)) : PE X (.BoolOp .And (a :: b :: rest) pos) (tD X.K Tb (eAnd fa fb)) := pe_imp (pe_and ha hb) fun σ H Q ⟨env, d, env', F, hf, R, k⟩ => by
  unfold eAnd at hf
  split at hf
  · rename_i e1 h1
    refine ⟨env, _, e1, F, h1, R, fun F1 H1 v S1 D1 => ⟨true, Dt.bl_inv D1, ?_⟩⟩
    rw [if_pos rfl]
    exact tD_step hf S1 k
  · rename_i e1 h1
    cases hf
    refine ⟨env, _, _, F, h1, R, fun F1 H1 v S1 D1 => ⟨false, Dt.bl_inv D1, ?_⟩⟩
    rw [if_neg Bool.false_ne_true]
    exact k F1 H1 _ S1 (.bl false)
  · cases hf
theorem d_or (ha : PE X a (tD X.K Tb fa)) (hb : PE X (.BoolOp .Or (b :: rest) pos) (tD X.K Tb fb)) : PE X (.BoolOp .Or (a :: b :: rest) pos) (tD X.K Tb (eOr fa fb)) := pe_imp (pe_or ha hb) fun σ H Q ⟨env, d, env', F, hf, R, k⟩ => by
  unfold eOr at hf
  split at hf
  · rename_i e1 h1
    cases hf
    refine ⟨env, _, _, F, h1, R, fun F1 H1 v S1 D1 => ⟨true, Dt.bl_inv D1, ?_⟩⟩
    rw [if_pos rfl]
    exact k F1 H1 _ S1 (.bl true)
  · rename_i e1 h1
    refine ⟨env, _, e1, F, h1, R, fun F1 H1 v S1 D1 => ⟨false, Dt.bl_inv D1, ?_⟩⟩
    rw [if_neg Bool.false_ne_true]
    exact tD_step hf S1 k
  · cases hf
theorem d_one {op} (h : PE X a (tD X.K Tb fa)) : PE X (.BoolOp op [a] pos) (tD X.K Tb fa) := pe_one h
theorem d_not (ha : PE X a (tD X.K Tb fa)) : PE X (.UnaryOp .Not a pos) (tD X.K Tb (eU dNot fa)) := pe_imp (pe_not ha) fun σ H Q h => run1 (r := fun x H Q => ∃ c, x = .bl c ∧ Q (.bl (!c)) H) (fun x H Q ⟨F, d, z, m, dx, hg, k⟩ => by
    cases dx <;> simp only [dNot] at hg <;> cases hg
    exact ⟨_, rfl, k F H _ (.inl ⟨rfl, rfl⟩) (.bl _)⟩) h
theorem d_tval (h : PE X a (tD X.K Tb fa)) (he : ∀ whole, isTrue a X.env whole = (do let v ← whole; standAt a.pos; holding [v] (truthy v)) := by intro _; rfl) : PT X a (tDT X.K Tb (tE fa)) := pt_imp (pt_val h he) fun σ H Q ⟨env, b, env', F, hf, R, k⟩ => by
  unfold tE at hf
  split at hf
  · rename_i c e1 h1
    cases hf
    exact ⟨env, _, _, F, h1, R, fun F1 H1 v S1 D1 => ⟨b, Dt.bl_inv D1, k F1 H1 S1⟩⟩
  · cases hf
theorem d_tcmp {op : CmpOp} {g : D → D → Option D} (ho : OpD X (compareOp op) g) (ha : PE X a (tD X.K Tb fa)) (hb : PE X b (tD X.K Tb fb)) (hm : behindInMarks op b = false) : PT X (.Compare a [op] [b] pos) (tDT X.K Tb (tE (eB g fa fb))) :=
  pt_imp (pt_cmpR ho ha hb hm) fun σ H Q ⟨env, b, env', F, hf, R, k⟩ => by
    unfold tE at hf
    split at hf
    · rename_i c e1 h1
      cases hf
      exact run2 (fun _ _ _ _ h => h) ⟨env, _, _, F, h1, R, fun F1 H1 v S1 D1 => ⟨b, Dt.bl_inv D1, k F1 H1 S1⟩⟩
    · cases hf
theorem d_tnot (ha : PT X a (tDT X.K Tb ga)) : PT X (.UnaryOp .Not a pos) (tDT X.K Tb (tNot ga)) := pt_imp (pt_not ha) fun σ H Q ⟨env, b, env', F, hf, R, k⟩ => by
  unfold tNot at hf
  split at hf
  · rename_i c e1 h1
    cases hf
    exact ⟨env, c, _, F, h1, R, fun F1 H1 S1 => k F1 H1 S1⟩
  · cases hf
theorem d_wand1 (ha : PT X a (tDT X.K Tb ga)) : PW X (.BoolOp .And [a] pos) (tDT X.K Tb ga) := pw_and1 ha
theorem d_wor1 (ha : PT X a (tDT X.K Tb ga)) : PW X (.BoolOp .Or [a] pos) (tDT X.K Tb ga) := pw_or1 ha
theorem tDT_step {f : EM Bool} {σ : L2.St} {H : Hp} {Q : Bool → Hp → Prop} {F : Hp} {env1 env' : Ev} {x : Bool} {H0 F0 : Hp} {env0 : Ev} (h : f env1 = some (x, env')) (S : Stp K Tb F0 H0 env0 σ F H env1 σ) (k : ∀ F' H', Stp K Tb F0 H0 env0 σ F' H' env' σ → Q x H') : tDT K Tb f σ H Q :=
  ⟨env1, x, env', F, h, S.rs, fun F' H' S' => k F' H' (S.trans S')⟩
theorem d_wand (ha : PT X a (tDT X.K Tb ga)) (hb : PW X (.BoolOp .And (b :: rest) pos) (tDT X.K Tb gb)) : PW X (.BoolOp .And (a :: b :: rest) pos) (tDT X.K Tb (tAnd ga gb)) := pw_imp (pw_and ha hb) fun σ H Q ⟨env, c, env', F, hf, R, k⟩ => by
  unfold tAnd at hf
  split at hf
  · rename_i e1 h1
    exact ⟨env, true, e1, F, h1, R, fun F1 H1 S1 => by dsimp only; rw [if_pos rfl]; exact tDT_step hf S1 k⟩
  · rename_i e1 h1
    cases hf
    exact ⟨env, false, _, F, h1, R, fun F1 H1 S1 => by dsimp only; rw [if_neg Bool.false_ne_true]; exact k F1 H1 S1⟩
  · cases hf
theorem d_wor (ha : PT X a (tDT X.K Tb ga)) (hb : PW X (.BoolOp .Or (b :: rest) pos) (tDT X.K Tb gb)) : PW X (.BoolOp .Or (a :: b :: rest) pos) (tDT X.K Tb (tOr ga gb)) := pw_imp (pw_or ha hb) fun σ H Q ⟨env, c, env', F, hf, R, k⟩ => by
  unfold tOr at hf
  split at hf
  · rename_i e1 h1
    cases hf
    exact ⟨env, true, _, F, h1, R, fun F1 H1 S1 => by dsimp only; rw [if_pos rfl]; exact k F1 H1 S1⟩
  · rename_i e1 h1
    exact ⟨env, false, e1, F, h1, R, fun F1 H1 S1 => by dsimp only; rw [if_neg Bool.false_ne_true]; exact tDT_step hf S1 k⟩
  · cases hf
theorem d_if {c : Expr} {gc : EM Bool} (hc : PT X c (tDT X.K Tb gc)) (ha : PE X a (tD X.K Tb fa)) (hb : PE X b (tD X.K Tb fb)) : PE X (.IfExp c a b pos) (tD X.K Tb (eIf gc fa fb)) := pe_imp (pe_ifExp hc ha hb) fun σ H Q ⟨env, d, env', F, hf, R, k⟩ => by
  unfold eIf at hf
  split at hf
  · rename_i e1 h1
    exact ⟨env, true, e1, F, h1, R, fun F1 H1 S1 => by dsimp only; rw [if_pos rfl]; exact tD_step hf S1 k⟩
  · rename_i e1 h1
    exact ⟨env, false, e1, F, h1, R, fun F1 H1 S1 => by dsimp only; rw [if_neg Bool.false_ne_true]; exact tD_step hf S1 k⟩
  · cases hf
/-- a op b op' c -/
def eCh (g g' : D → D → Option D) (a b c : EM D) : EM D := fun env => match a env with
  | some (x, e1) => match b e1 with
    | some (y, e2) => match g x y with
      | some (.bool true) => match c e2 with
        | some (z, e3) => match g' y z with
          | some w => some (w, e3)
          | none => none
        | none => none
      | some (.bool false) => some (.bool false, e2)
      | _ => none
    | none => none
  | none => none
theorem run_chain {op op' : CmpOp} {g g' : D → D → Option D} {c : Expr} {fc : EM D} {σ : L2.St} {H : Hp} {Q : VK} (h : tD X.K Tb (eCh g g' fa fb fc) σ H Q) :
    tChain (rD X.K g) (rD X.K g') (tD X.K Tb fa) (tD X.K Tb fb) (tD X.K Tb fc) σ H Q := by
  obtain ⟨env, d, env', F, hf, R, k⟩ := h
  unfold eCh at hf
  split at hf
  · rename_i x e1 h1
    split at hf
    · rename_i y e2 h2
      refine ⟨env, x, e1, F, h1, R, fun F1 H1 v S1 D1 => ⟨e1, y, e2, F1, h2, S1.rs, fun F2 H2 u S2 D2 => ?_⟩⟩
      split at hf
      · rename_i h3
        refine ⟨F2, x, y, _, S2.rs.wf.sub, Dt.mono S2.mono D1, D2, h3, fun F3 H3 w l dw => ⟨true, Dt.bl_inv dw, ?_⟩⟩
        rw [if_pos rfl]
        have S3 := (S1.trans S2).trans (RS.lay S2.rs l)
        split at hf
        · rename_i z e3 h4
          split at hf
          · rename_i h5
            cases hf
            refine ⟨e2, z, _, F3, h4, S3.rs, fun F4 H4 t S4 D4 => ⟨F4, y, z, d, S4.rs.wf.sub, Dt.mono S4.mono (Dt.mono (RS.lay S2.rs l).mono D2), D4, h5, fun F5 H5 w' l' dw' => k F5 H5 w' ((S3.trans S4).trans (RS.lay S4.rs l')) dw'⟩⟩
          · cases hf
        · cases hf
      · rename_i h3
        cases hf
        refine ⟨F2, x, y, _, S2.rs.wf.sub, Dt.mono S2.mono D1, D2, h3, fun F3 H3 w l dw => ⟨false, Dt.bl_inv dw, ?_⟩⟩
        rw [if_neg Bool.false_ne_true]
        exact k F3 H3 _ ((S1.trans S2).trans (RS.lay S2.rs l)) (.bl false)
      · cases hf
    · cases hf
  · cases hf
theorem d_chain {op op' : CmpOp} {g g' : D → D → Option D} {c : Expr} {fc : EM D} (ho : OpD X (compareOp op) g) (ho' : OpD X (compareOp op') g') (ha : PE X a (tD X.K Tb fa)) (hb : PE X b (tD X.K Tb fb)) (hc : PE X c (tD X.K Tb fc))
    (hm : lastMarks [op, op'] [b, c] = false := by with_unfolding_all rfl) : PE X (.Compare a [op, op'] [b, c] pos) (tD X.K Tb (eCh g g' fa fb fc)) :=
  pe_imp (pe_chain ho ho' ha hb hc hm) fun σ H Q h => run_chain (op := op) (op' := op') (c := c) h
theorem d_tchain {op op' : CmpOp} {g g' : D → D → Option D} {c : Expr} {fc : EM D} (ho : OpD X (compareOp op) g) (ho' : OpD X (compareOp op') g') (ha : PE X a (tD X.K Tb fa)) (hb : PE X b (tD X.K Tb fb)) (hc : PE X c (tD X.K Tb fc))
    (hm : lastMarks [op, op'] [b, c] = false := by with_unfolding_all rfl) : PT X (.Compare a [op, op'] [b, c] pos) (tDT X.K Tb (tE (eCh g g' fa fb fc))) :=
  pt_imp (pt_chain ho ho' ha hb hc hm) fun σ H Q ⟨env, b', env', F, hf, R, k⟩ => by
    unfold tE at hf
    split at hf
    · rename_i c' e1 h1
      cases hf
      exact run_chain (op := op) (op' := op') (c := c) ⟨env, _, _, F, h1, R, fun F1 H1 v S1 D1 => ⟨_, Dt.bl_inv D1, k F1 H1 S1⟩⟩
    · cases hf
end

/-! ### arguments, displays -/
def eA0 : EM (List D) := fun env => some ([], env)
def eAc (a : EM D) (as : EM (List D)) : EM (List D) := fun env => match a env with
  | some (x, e1) => match as e1 with
    | some (xs, e2) => some (x :: xs, e2)
    | none => none
  | none => none
def itemsOf : D → Option (List D)
  | .list xs => some xs
  | .tuple xs => some xs
  | _ => none
def eAs (a : EM D) (as : EM (List D)) : EM (List D) := fun env => match a env with
  | some (x, e1) => match itemsOf x with
    | some ys => match as e1 with
      | some (xs, e2) => some (ys ++ xs, e2)
      | none => none
    | none => none
  | none => none
def eTup (as : EM (List D)) : EM D := fun env => match as env with
  | some (xs, e1) => if xs.length ≤ sizeLine then some (.tuple xs, e1) else none
  | none => none
def eLs (as : EM (List D)) : EM (List D) := fun env => match as env with
  | some (xs, e1) => if xs.length ≤ sizeLine then some (xs, e1) else none
  | none => none
def eOfL (as : EM (List D)) : EM D := fun env => match as env with
  | some (xs, e1) => some (.list xs, e1)
  | none => none
section
variable {e : Expr} {es : List Expr} {pos : Pos} {fa : EM D} {fs : EM (List D)}
theorem d_nil : PA X [] (tDA X.K Tb eA0) := pa_imp pa_nil fun σ H Q ⟨env, ds, env', F, hf, R, k⟩ => by
  cases hf
  exact k F H [] (Stp.refl R) .nil
theorem d_cons (ha : PE X e (tD X.K Tb fa)) (hr : PA X es (tDA X.K Tb fs)) (hs : starEach (e :: es) X.env = (false, eval e X.env) :: starEach es X.env := by rfl) : PA X (e :: es) (tDA X.K Tb (eAc fa fs)) := pa_imp (pa_cons ha hr hs) fun σ H Q ⟨env, ds, env', F, hf, R, k⟩ => by
  unfold eAc at hf
  split at hf
  · rename_i x e1 h1
    split at hf
    · rename_i xs e2 h2
      cases hf
      exact ⟨env, x, e1, F, h1, R, fun F1 H1 v S1 D1 => ⟨e1, xs, _, F1, h2, S1.rs, fun F2 H2 vs S2 D2 => k F2 H2 (v :: vs) (S1.trans S2) (.cons (Dt.mono S2.mono D1) D2)⟩⟩
    · cases hf
  · cases hf
theorem d_star {p : Pos} (ha : PE X e (tD X.K Tb fa)) (hr : PA X es (tDA X.K Tb fs)) (hs : starEach (.Starred e p :: es) X.env = (true, eval e X.env) :: starEach es X.env := by rfl) : PA X (.Starred e p :: es) (tDA X.K Tb (eAs fa fs)) := pa_imp (StX.pa_star ha hr hs) fun σ H Q ⟨env, ds, env', F, hf, R, k⟩ => by
  unfold eAs at hf
  split at hf
  · rename_i x e1 h1
    split at hf
    · rename_i ys hy
      split at hf
      · rename_i xs e2 h2
        cases hf
        refine ⟨env, x, e1, F, h1, R, fun F1 H1 v S1 D1 => ?_⟩
        have key : ∃ a us, v = .ref a ∧ (SqT X.K H1 a us ∨ SqL X.K H1 a us) ∧ DtAll X.K F1 us ys := by
          cases D1 <;> simp only [itemsOf] at hy <;> cases hy
          · rename_i b c
            exact ⟨_, _, rfl, .inr (SqL.of (S1.rs.wf.sub _ _ b)), c⟩
          · rename_i b c
            exact ⟨_, _, rfl, .inl (SqT.mono S1.rs.wf.sub b), c⟩
        obtain ⟨a, us, rfl, hq, hd⟩ := key
        exact ⟨a, us, rfl, hq, ⟨e1, xs, _, F1, h2, S1.rs, fun F2 H2 vs S2 D2 => k F2 H2 (us ++ vs) (S1.trans S2) (DtAll.append (DtAll.mono S2.mono hd) D2)⟩⟩
      · cases hf
    · cases hf
  · cases hf
theorem d_tup {x1} (h : PA X es (tDA X.K Tb fs)) : PE X (.Tuple es x1 pos) (tD X.K Tb (eTup fs)) := pe_imp (pe_tup h) fun σ H Q ⟨env, d, env', F, hf, R, k⟩ => by
  unfold eTup at hf
  split at hf
  · rename_i xs e1 h1
    split at hf
    · rename_i hz
      cases hf
      refine ⟨env, xs, _, F, h1, R, fun F1 H1 vs S1 D1 => ⟨by rw [DtAll.length D1]; exact hz, fun p hp => ?_⟩⟩
      have L : Lay F1 H1 (upd F1 p (.tup vs)) (upd H1 p (.tup vs)) := .inr ⟨p, _, hp, nt_tup, rfl, rfl⟩
      exact k _ _ _ (S1.trans (RS.lay S1.rs L)) (.tup (SqT.of upd_same) (DtAll.mono (RS.lay S1.rs L).mono D1))
    · cases hf
  · cases hf
/-- a new thing is laid, that nothing has -/
theorem RS.alloc {F H : Hp} {env : Ev} {σ : L2.St} (h : RS K Tb F H env σ) {p : Addr} {o : HO} (hp : H p = none) (hn : NT o) : Stp K Tb F H env σ F (upd H p o) env σ ∧ ¬ Owned env σ p := by
  have S := RS.new h hp hn
  have fp := lay_none h hp
  have no : ¬ Owned env σ p := fun o => (h.ownF o).2 hp
  refine ⟨⟨Mono.refl, fun b u e nt no => ⟨(S.keep b u e nt no).1, id⟩, S.dom, ⟨⟨fun a u e => by rw [upd_ne (ne_of_none e fp)]; exact h.wf.sub a u e, h.wf.nt, S.rs.wf.tabs⟩, h.len, fun i x e => ?_, h.sep⟩, fun b h => .inl h⟩, no⟩
  obtain ⟨y, h1, h2⟩ := h.slot i x e
  refine ⟨y, h1, ?_⟩
  match x, y, h2 with
  | .un, _, _ => trivial
  | .fz d, some v, h2 => exact h2
  | .sq ds, some (.ref q), h2 => exact h2
  | .ow tg ds, some (.ref q), ⟨⟨tq, a⟩, vs, b, c⟩ =>
    have ne : q ≠ p := ne_of_none b hp
    exact ⟨⟨tq, a⟩, vs, by rw [upd_ne ne]; exact b, c⟩
  | .dk kvs, some (.ref q), ⟨a, vs, b, c⟩ =>
    have ne : q ≠ p := ne_of_none b hp
    exact ⟨a, vs, by rw [upd_ne ne]; exact b, c⟩
theorem d_list (h : PA X es (tDA X.K Tb fs)) : PE X (.List es pos) (tNew X.K Tb (eLs fs)) := pe_imp (pe_lst h) fun σ H Q ⟨env, ds, env', F, hf, R, k⟩ => by
  unfold eLs at hf
  split at hf
  · rename_i xs e1 h1
    split at hf
    · rename_i hz
      cases hf
      refine ⟨env, _, _, F, h1, R, fun F1 H1 vs S1 D1 => ⟨by rw [DtAll.length D1]; exact hz, fun p hp => ?_⟩⟩
      obtain ⟨S2, no⟩ := RS.alloc (o := .lst vs) S1.rs hp nt_lst
      exact k F1 _ p vs (S1.trans S2) (S1.dom p hp) (lay_none S1.rs hp) upd_same no D1
    · cases hf
  · cases hf
/-- it stands still from here on -/
theorem Stp.frz {F H F' H' : Hp} {env env' : Ev} {σ : L2.St} {p : Addr} {vs : List V} (S : Stp K Tb F H env σ F' H' env' σ) (hp : H p = none) (hF : F' p = none) (hl : H' p = some (.lst vs)) (no : ¬ Owned env' σ p) :
    Stp K Tb F H env σ (upd F' p (.lst vs)) H' env' σ := by
  have mo : Mono F' (upd F' p (.lst vs)) := Mono.upd hF
  refine ⟨S.mono.trans mo, fun b u e nt n => ⟨(S.keep b u e nt n).1, fun z => by rw [upd_ne (ne_of_none e hp)]; exact (S.keep b u e nt n).2 z⟩, S.dom, ⟨⟨fun a u e => ?_, fun a u e => ?_, S.rs.wf.tabs⟩, S.rs.len, fun i x e => ?_, S.rs.sep⟩, S.sub⟩
  · by_cases ha : a = p
    · subst ha; rw [upd_same] at e; cases e; exact hl
    · rw [upd_ne ha] at e; exact S.rs.wf.sub a u e
  · by_cases ha : a = p
    · subst ha; rw [upd_same] at e; cases e; exact nt_lst
    · rw [upd_ne ha] at e; exact S.rs.wf.nt a u e
  · obtain ⟨y, h1, h2⟩ := S.rs.slot i x e
    refine ⟨y, h1, ?_⟩
    match x, y, e, h1, h2 with
    | .un, _, _, _, _ => trivial
    | .fz d, some v, _, _, h2 => exact Dt.mono mo h2
    | .sq ds, some (.ref q), _, _, ⟨us, b, c⟩ => exact ⟨us, SqL.mono mo b, DtAll.mono mo c⟩
    | .ow tg ds, some (.ref q), e, h1, ⟨⟨tq, a⟩, us, b, c⟩ =>
      have ne : q ≠ p := fun z => no (by rw [← z]; exact ⟨i, _, e, rfl, h1⟩)
      exact ⟨⟨tq, by rw [upd_ne ne]; exact a⟩, us, b, DtAll.mono mo c⟩
    | .dk ds, some (.ref q), e, h1, ⟨a, us, b, c⟩ =>
      have ne : q ≠ p := fun z => no (by rw [← z]; exact ⟨i, _, e, rfl, h1⟩)
      exact ⟨by rw [upd_ne ne]; exact a, us, b, DtK.mono mo c⟩
theorem d_ofNew (h : PE X e (tNew X.K Tb fs)) : PE X e (tD X.K Tb (eOfL fs)) := pe_imp h fun σ H Q ⟨env, d, env', F, hf, R, k⟩ => by
  unfold eOfL at hf
  split at hf
  · rename_i xs e1 h1
    cases hf
    refine ⟨env, xs, _, F, h1, R, fun F1 H1 p vs S1 h0 hF hl no D1 => ?_⟩
    have S2 := Stp.frz S1 h0 hF hl no
    exact k _ _ _ S2 (.lst upd_same (DtAll.mono (Mono.upd hF) D1))
  · cases hf
end

/-! ### subscripts -/
def dIx : D → D → Option D
  | .list ds, .int i => atI ds i
  | .tuple ds, .int i => atI ds i
  | .str z, .int i => if z.length ≤ sizeLine then (atI z.cps.toList i).map fun c => .str ⟨#[c]⟩ else none
  | _, _ => none
theorem atI_dt {F : Hp} {vs : List V} {ds : List D} {i : Int} {d : D} (h : DtAll K F vs ds) (e : atI ds i = some d) : ∃ v, atI vs i = some v ∧ Dt K F v d := by
  unfold atI at e ⊢
  rw [DtAll.length h]
  cases hx : ixN ds.length i with
  | none => rw [hx] at e; cases e
  | some j =>
    rw [hx] at e
    exact DtAll.get h e
theorem ix_D {x y : V} {H : Hp} {Q : VK} (h : rD K dIx x y H Q) : rIx K x y H Q := by
  obtain ⟨F, d, e, z, m, dx, dy, hg, k⟩ := h
  cases d <;> cases e <;> simp only [dIx] at hg <;> try cases hg
  · split at hg
    · rename_i hz
      rw [Dt.str_inv dx, Dt.int_inv dy]
      cases hc : atI (Array.toList _) _ with
      | none => rw [hc] at hg; cases hg
      | some c =>
        rw [hc] at hg
        cases hg
        exact .inr (.inr ⟨_, _, c, rfl, rfl, hz, hc, k F H _ (.inl ⟨rfl, rfl⟩) (.str _)⟩)
    · cases hg
  · obtain ⟨a, xs, rfl, h1, h2⟩ := Dt.list_inv dx
    rw [Dt.int_inv dy]
    obtain ⟨v, h3, h4⟩ := atI_dt h2 hg
    exact .inl ⟨a, xs, _, v, rfl, rfl, SqL.of (m _ _ h1), h3, k F H v (.inl ⟨rfl, rfl⟩) h4⟩
  · obtain ⟨a, xs, rfl, h1, h2⟩ := Dt.tup_inv dx
    rw [Dt.int_inv dy]
    obtain ⟨v, h3, h4⟩ := atI_dt h2 hg
    exact .inr (.inl ⟨a, xs, _, v, rfl, rfl, SqT.mono m h1, h3, k F H v (.inl ⟨rfl, rfl⟩) h4⟩)
theorem d_ix {a b : Expr} {pos : Pos} {fa fb : EM D} (ha : PE X a (tD X.K Tb fa)) (hb : PE X b (tD X.K Tb fb)) (hs : PlainIx b := by intro _ _; rfl) : PE X (.Subscript a b pos) (tD X.K Tb (eB dIx fa fb)) :=
  pe_imp (pe_ix ix_seq ha hb hs) fun σ H Q h => run2 (fun _ _ _ _ h => ix_D h) h
/-- an item of an own list -/
def eIxO (i : Nat) (b : EM D) : EM D := fun env => match env[i]? with
  | some (.ow _ _) => match b env with
    | some (.int j, e1) => match e1[i]? with
      | some (.ow _ ds) => match atI ds j with
        | some d => some (d, e1)
        | none => none
      | _ => none
    | _ => none
  | _ => none
theorem d_ixO {i : Nat} {a b : Expr} {pos : Pos} {fb : EM D} (ha : PE X a (tVar i)) (hb : PE X b (tD X.K Tb fb)) (hs : PlainIx b := by intro _ _; rfl) : PE X (.Subscript a b pos) (tD X.K Tb (eIxO i fb)) :=
  pe_imp (pe_ix ix_list ha hb hs) fun σ H Q ⟨env, d, env', F, hf, R, k⟩ => by
    unfold eIxO at hf
    split at hf
    · rename_i tg0 ds0 h0
      obtain ⟨p, _, hs0, _, _, _⟩ := R.ow h0
      split at hf
      · rename_i j e1 h1
        split at hf
        · rename_i tg ds h2
          split at hf
          · rename_i d' h3
            cases hf
            refine ⟨.ref p, hs0, ⟨env, _, _, F, h1, R, fun F1 H1 v S1 D1 => ?_⟩⟩
            obtain ⟨p', vs, hs1, f1, hl, hd⟩ := S1.rs.ow h2
            rw [hs0] at hs1
            cases hs1
            obtain ⟨w, h4, h5⟩ := atI_dt hd h3
            exact ⟨p, vs, j, w, rfl, Dt.int_inv D1, SqL.of hl, h4, k F1 H1 w S1 h5⟩
          · cases hf
        · cases hf
      · cases hf
    · cases hf
/-! ### slices -/
def eP0 : EM (Option Int) := fun env => some (none, env)
def ePs (a : EM D) : EM (Option Int) := fun env => match a env with
  | some (.int i, e1) => some (some i, e1)
  | _ => none
def tDO (K : PySem.W.Frag) (Tb : List Addr) (f : EM (Option Int)) : TO := fun σ H Q => ∃ env o env' F, f env = some (o, env') ∧ RS K Tb F H env σ ∧ ∀ F' H', Stp K Tb F H env σ F' H' env' σ → Q o H'
theorem d_p0 : PO X none (tDO X.K Tb eP0) := ⟨fun pins s σ H Q I ⟨env, o, env', F, hf, R, k⟩ => by
  cases hf
  exact po_none.run pins s σ H _ I (k F H (Stp.refl R))⟩
theorem d_ps {a : Expr} {fa : EM D} (h : PE X a (tD X.K Tb fa)) : PO X (some a) (tDO X.K Tb (ePs fa)) := ⟨fun pins s σ H Q I ⟨env, o, env', F, hf, R, k⟩ => by
  unfold ePs at hf
  split at hf
  · rename_i i e1 h1
    cases hf
    exact (po_some h).run pins s σ H _ I ⟨env, _, _, F, h1, R, fun F1 H1 v S1 D1 => ⟨i, Dt.int_inv D1, k F1 H1 S1⟩⟩
  · cases hf⟩
def cutD (xs : List D) (lo hi : Option Int) : List D := (xs.drop (HT.sIx xs.length 0 lo)).take (HT.sIx xs.length xs.length hi - HT.sIx xs.length 0 lo)
theorem cut_dt {F : Hp} {vs : List V} {ds : List D} (h : DtAll K F vs ds) (lo hi : Option Int) : DtAll K F (cutV vs lo hi) (cutD ds lo hi) := by
  unfold cutV cutD
  rw [DtAll.length h]
  exact DtAll.take _ (DtAll.drop _ h)
def dSl (d : D) (lo hi : Option Int) : Option D := match d with
  | .list ds => some (.list (cutD ds lo hi))
  | .tuple ds => some (.tuple (cutD ds lo hi))
  | .str z => if z.length ≤ sizeLine then some (.str (cutS z lo hi)) else none
  | _ => none
def eSl (a : EM D) (l h : EM (Option Int)) : EM D := fun env => match a env with
  | some (x, e1) => match l e1 with
    | some (lo, e2) => match h e2 with
      | some (hi, e3) => match dSl x lo hi with
        | some z => some (z, e3)
        | none => none
      | none => none
    | none => none
  | none => none
theorem d_sl {a : Expr} {lo hi : Option Expr} {p2 pos : Pos} {fa : EM D} {fl fh : EM (Option Int)} (ha : PE X a (tD X.K Tb fa)) (hl : PO X lo (tDO X.K Tb fl)) (hh : PO X hi (tDO X.K Tb fh)) : PE X (.Subscript a (.Slice lo hi none p2) pos) (tD X.K Tb (eSl fa fl fh)) :=
  pe_imp (pe_slice ((sl_list.or sl_tupA).or sl_str) ha hl hh) fun σ H Q ⟨env, d, env', F, hf, R, k⟩ => by
    unfold eSl at hf
    split at hf
    · rename_i x e1 h1
      split at hf
      · rename_i l e2 h2
        split at hf
        · rename_i u e3 h3
          split at hf
          · rename_i z h4
            cases hf
            refine ⟨env, x, e1, F, h1, R, fun F1 H1 v S1 D1 => ⟨e1, l, e2, F1, h2, S1.rs, fun F2 H2 S2 => ⟨e2, u, _, F2, h3, S2.rs, fun F3 H3 S3 => ?_⟩⟩⟩
            have D3 := Dt.mono (S2.trans S3).mono D1
            have S := S1.trans (S2.trans S3)
            cases x <;> simp only [dSl] at h4 <;> try cases h4
            · split at h4
              · rename_i hz
                cases h4
                rw [Dt.str_inv D3]
                exact .inr ⟨_, rfl, hz, k F3 H3 _ S (.str _)⟩
              · cases h4
            · obtain ⟨b, xs, rfl, g1, g2⟩ := Dt.list_inv D3
              refine .inl (.inl ⟨b, xs, rfl, SqL.of (S.rs.wf.sub _ _ g1), fun p hp => ?_⟩)
              have L : Lay F3 H3 (upd F3 p (.lst (cutV xs l u))) (upd H3 p (.lst (cutV xs l u))) := .inr ⟨p, _, hp, nt_lst, rfl, rfl⟩
              exact k _ _ _ (S.trans (RS.lay S.rs L)) (.lst upd_same (DtAll.mono (RS.lay S.rs L).mono (cut_dt g2 l u)))
            · obtain ⟨b, xs, rfl, g1, g2⟩ := Dt.tup_inv D3
              refine .inl (.inr ⟨b, xs, rfl, SqT.mono S.rs.wf.sub g1, fun hw => ?_, fun hw p hp => ?_⟩)
              · have ew : cutV xs l u = xs := by
                  unfold cutV
                  rw [hw.1, hw.2]
                  simp
                refine k F3 H3 _ S (.tup g1 ?_)
                have := cut_dt g2 l u
                rw [ew] at this
                exact this
              · have L : Lay F3 H3 (upd F3 p (.tup (cutV xs l u))) (upd H3 p (.tup (cutV xs l u))) := .inr ⟨p, _, hp, nt_tup, rfl, rfl⟩
                exact k _ _ _ (S.trans (RS.lay S.rs L)) (.tup (SqT.of upd_same) (DtAll.mono (RS.lay S.rs L).mono (cut_dt g2 l u)))
          · cases hf
        · cases hf
      · cases hf
    · cases hf
end
end DL

namespace DL
open PySem PySem.Spec PyProof.Rows L2 GxR
section
variable {X : Cx} {K : PySem.W.Frag} {Tb : List Addr}
/-! ### what is walked -/
def JOk (K : PySem.W.Frag) (Tb : List Addr) (J : It) (ds : List D) (F0 : Hp) : Prop := ∀ F H env σ, RS K Tb F H env σ → Mono F0 F → ∀ i : Nat,
  (∀ d, ds[i]? = some d → J.go i H ∧ ∀ x H', J.yld i H x H' → ∃ F', Stp K Tb F H env σ F' H' env σ ∧ Dt K F' x d) ∧ (ds.length ≤ i → J.stop i H)
def tDI (K : PySem.W.Frag) (Tb : List Addr) (f : EM (List D)) : TI := fun σ H R => ∃ env ds env' F, f env = some (ds, env') ∧ RS K Tb F H env σ ∧ ∀ F' H' J, Stp K Tb F H env σ F' H' env' σ → JOk K Tb J ds F' → R J H'
theorem pi_imp {tg e : Expr} {t t' : TI} (h : PI X tg e t) (i : ∀ σ H Q, t' σ H Q → t σ H Q) : PI X tg e t' := ⟨fun pins s σ H R I q => h.run pins s σ H R I (i σ H R q)⟩
def iAny (K : PySem.W.Frag) (tl : TE) : TI := fun σ H R => tl σ H fun x H1 => (∃ a, x = .ref a ∧ (∃ xs, SqL K H1 a xs) ∧ R (Itl K a) H1) ∨ (∃ a, x = .ref a ∧ (∃ xs, SqT K H1 a xs) ∧ R (Itt K a) H1) ∨ ∃ z, x = .str z ∧ R (Its z) H1
theorem pi_any {tg l : Expr} {tl : TE} (hl : PE X l tl) : PI X tg l (iAny X.K tl) := by
  refine ⟨fun pins s σ H R I h => ?_⟩
  refine thn (hl.run pins s σ H _ I h) fun v s1 ⟨x, H1, I1, r1, q1⟩ => ?_
  rcases q1 with ⟨a, e, ⟨xs, hq⟩, q⟩ | ⟨a, e, ⟨xs, hq⟩, q⟩ | ⟨z, e, q⟩
  · subst e
    cases r1
    obtain ⟨its, rv, p, hz⟩ := I1.list hq
    refine wpAny_pyIter_list p.isList ?_
    refine ⟨s1.heap.objs.size, [s1.heap.objs.size], _, _, H1, rfl, I1.kept (t' := s1.toks) fun b o e => Heap.get?_push_of_some _ e, turn_list a _, ⟨_, Heap.get?_push_size _ rfl, rfl, rfl⟩, fun b hb => ?_, q⟩
    have e : b = s1.heap.objs.size := by simpa using hb
    subst e
    exact I1.fpOk (Nat.le_refl _) (I1.hok.fresh (Nat.le_refl _))
  · subst e
    cases r1
    obtain ⟨its, rv, p, hz⟩ := I1.tuple hq
    refine wpAny_pyIter_tuple (show s1.heap.IsTuple a its.toArray from p) ?_
    refine ⟨s1.heap.objs.size, [s1.heap.objs.size], _, _, H1, rfl, I1.kept (t' := s1.toks) fun b o e => Heap.get?_push_of_some _ e, turn_tuple a _, ⟨_, Heap.get?_push_size _ rfl, rfl, rfl⟩, fun b hb => ?_, q⟩
    have e : b = s1.heap.objs.size := by simpa using hb
    subst e
    exact I1.fpOk (Nat.le_refl _) (I1.hok.fresh (Nat.le_refl _))
  · subst e
    obtain ⟨t, rfl⟩ := r1
    cases ha : z.cps.all (· < 128)
    · exact wpAny_pyIter_wide ha (pi_one (tk := s1.toks) I1 _ (turn_str _ z t "str_iterator" (.inr rfl)) ⟨_, Heap.get?_push_size _ rfl, rfl, rfl⟩ q)
    · exact wpAny_pyIter_ascii ha (pi_one (tk := s1.toks) I1 _ (turn_str _ z t "str_ascii_iterator" (.inl rfl)) ⟨_, Heap.get?_push_size _ rfl, rfl, rfl⟩ q)
/-- the signs of a text -/
def signs (z : Str) : List D := z.cps.toList.map fun c => .str ⟨#[c]⟩
def walkOf : D → Option (List D)
  | .list xs => some xs
  | .tuple xs => some xs
  | .str z => some (signs z)
  | _ => none
def iW (f : EM D) : EM (List D) := fun env => match f env with
  | some (x, e1) => match walkOf x with
    | some xs => some (xs, e1)
    | none => none
  | none => none
theorem jok_list {F0 : Hp} {a : Addr} {vs : List V} {ds : List D} (h : F0 a = some (.lst vs)) (hd : DtAll K F0 vs ds) : JOk K Tb (Itl K a) ds F0 := fun F H env σ R m i => by
  have hq : SqL K H a vs := SqL.of (R.wf.sub _ _ (m _ _ h))
  refine ⟨fun d e => ?_, fun hi => ⟨vs, hq, by rw [DtAll.length hd]; exact hi⟩⟩
  obtain ⟨v, h1, h2⟩ := DtAll.get hd e
  refine ⟨⟨vs, v, hq, h1⟩, fun x H' ⟨e1, e2⟩ => ?_⟩
  subst e1
  have := e2 vs hq
  rw [h1] at this
  cases this
  exact ⟨F, Stp.refl R, Dt.mono m h2⟩
theorem jok_tup {F0 : Hp} {a : Addr} {vs : List V} {ds : List D} (h : SqT K F0 a vs) (hd : DtAll K F0 vs ds) : JOk K Tb (Itt K a) ds F0 := fun F H env σ R m i => by
  have hq : SqT K H a vs := SqT.mono R.wf.sub (SqT.mono m h)
  refine ⟨fun d e => ?_, fun hi => ⟨vs, hq, by rw [DtAll.length hd]; exact hi⟩⟩
  obtain ⟨v, h1, h2⟩ := DtAll.get hd e
  refine ⟨⟨vs, v, hq, h1⟩, fun x H' ⟨e1, e2⟩ => ?_⟩
  subst e1
  have := e2 vs hq
  rw [h1] at this
  cases this
  exact ⟨F, Stp.refl R, Dt.mono m h2⟩
theorem jok_str {F0 : Hp} {z : Str} : JOk K Tb (Its z) (signs z) F0 := fun F H env σ R m i => by
  refine ⟨fun d e => ?_, fun hi => ?_⟩
  · unfold signs at e
    rw [List.getElem?_map] at e
    cases hc : z.cps.toList[i]? with
    | none => rw [hc] at e; cases e
    | some c =>
      rw [hc] at e
      cases e
      have hlt : i < z.cps.size := by
        have := (List.getElem?_eq_some_iff.mp hc).1
        simpa using this
      refine ⟨hlt, fun x H' ⟨e1, c', e2, e3⟩ => ?_⟩
      subst e1
      rw [Array.getElem?_toList] at hc
      rw [hc] at e2
      cases e2
      subst e3
      exact ⟨F, Stp.refl R, .str _⟩
  · show z.cps.size ≤ i
    unfold signs at hi
    simpa using hi
theorem d_iter {tg l : Expr} {f : EM D} (h : PE X l (tD X.K Tb f)) : PI X tg l (tDI X.K Tb (iW f)) := pi_imp (pi_any h) fun σ H R ⟨env, ds, env', F, hf, RR, k⟩ => by
  unfold iW at hf
  split at hf
  · rename_i x e1 h1
    split at hf
    · rename_i xs hx
      cases hf
      refine ⟨env, x, _, F, h1, RR, fun F1 H1 v S1 D1 => ?_⟩
      cases x <;> simp only [walkOf] at hx <;> cases hx
      · rw [Dt.str_inv D1]
        exact .inr (.inr ⟨_, rfl, k F1 H1 _ S1 jok_str⟩)
      · obtain ⟨a, vs, rfl, g1, g2⟩ := Dt.list_inv D1
        exact .inl ⟨a, rfl, ⟨vs, SqL.of (S1.rs.wf.sub _ _ g1)⟩, k F1 H1 _ S1 (jok_list g1 g2)⟩
      · obtain ⟨a, vs, rfl, g1, g2⟩ := Dt.tup_inv D1
        exact .inr (.inl ⟨a, rfl, ⟨vs, SqT.mono S1.rs.wf.sub g1⟩, k F1 H1 _ S1 (jok_tup g1 g2)⟩)
    · cases hf
  · cases hf
def rng (a b : Int) : List D := (List.range (b - a).toNat).map fun (i : Nat) => .int (a + (i : Int))
@[irreducible] def small62 (a : Int) : Bool := Nat.ble a.natAbs 4611686018427387903
theorem small62_of {a : Int} (h1 : -4611686018427387904 < a) (h2 : a < 4611686018427387904) : small62 a = true := by
  unfold small62
  rw [Nat.ble_eq]
  omega
theorem small62_iff {a : Int} (h : small62 a = true) : -(2 ^ 62) ≤ a ∧ a < 2 ^ 62 := by
  unfold small62 at h
  rw [Nat.ble_eq] at h
  omega
theorem jok_rng {F0 : Hp} {a b : Int} : JOk K Tb (Itr a (b - a).toNat) (rng a b) F0 := fun F H env σ R m i => by
  refine ⟨fun d e => ?_, fun hi => ?_⟩
  · unfold rng at e
    rw [List.getElem?_map] at e
    cases hc : (List.range (b - a).toNat)[i]? with
    | none => rw [hc] at e; cases e
    | some c =>
      rw [hc] at e
      cases e
      obtain ⟨hlt, hv⟩ := List.getElem?_eq_some_iff.mp hc
      rw [List.length_range] at hlt
      rw [List.getElem_range] at hv
      subst hv
      refine ⟨hlt, fun x H' ⟨e1, e2⟩ => ?_⟩
      subst e1
      subst e2
      exact ⟨F, Stp.refl R, .int _⟩
  · show (b - a).toNat ≤ i
    unfold rng at hi
    simpa using hi
/-- range(b), range(a, b) -/
def iR1 (f : EM (List D)) : EM (List D) := fun env => match f env with
  | some ([.int b], e1) => if small62 b then some (rng 0 b, e1) else none
  | _ => none
def iR2 (f : EM (List D)) : EM (List D) := fun env => match f env with
  | some ([.int a, .int b], e1) => if small62 a && small62 b then some (rng a b, e1) else none
  | _ => none
theorem DtAll.one_inv {F : Hp} {vs : List V} {d : D} (h : DtAll K F vs [d]) : ∃ v, vs = [v] ∧ Dt K F v d := by
  cases h with | cons a t => cases t; exact ⟨_, rfl, a⟩
theorem DtAll.two_inv {F : Hp} {vs : List V} {d e : D} (h : DtAll K F vs [d, e]) : ∃ v u, vs = [v, u] ∧ Dt K F v d ∧ Dt K F u e := by
  cases h with | cons a t => cases t with | cons b t => cases t; exact ⟨_, _, rfl, a, b⟩
theorem d_range1 {tg a : Expr} {p pos : Pos} {f : EM (List D)} (hg : Gl X "range") (hm : X.mg "range" = none) (ha : PA X [a] (tDA X.K Tb f)) (hs : starEach [a] X.env = [(false, eval a X.env)] := by rfl) : PI X tg (.Call (.Name "range" p) [a] [] pos) (tDI X.K Tb (iR1 f)) :=
  pi_imp (pi_range1 hg hm ha hs) fun σ H R ⟨env, ds, env', F, hf, RR, k⟩ => by
    unfold iR1 at hf
    split at hf
    · rename_i b e1 h1
      split at hf
      · rename_i hb
        cases hf
        refine ⟨env, _, _, F, h1, RR, fun F1 H1 vs S1 D1 => ?_⟩
        obtain ⟨v, rfl, hv⟩ := DtAll.one_inv D1
        obtain ⟨b1, b2⟩ := small62_iff hb
        refine ⟨b, by rw [Dt.int_inv hv], b1, b2, k F1 H1 _ S1 ?_⟩
        have := jok_rng (K := X.K) (Tb := Tb) (F0 := F1) (a := 0) (b := b)
        rw [show b - 0 = b by omega] at this
        exact this
      · cases hf
    · cases hf
theorem d_range2 {tg a b : Expr} {p pos : Pos} {f : EM (List D)} (hg : Gl X "range") (hm : X.mg "range" = none) (ha : PA X [a, b] (tDA X.K Tb f)) (hs : starEach [a, b] X.env = [(false, eval a X.env), (false, eval b X.env)] := by rfl) (hs2 : starEach [b] X.env = [(false, eval b X.env)] := by rfl) :
    PI X tg (.Call (.Name "range" p) [a, b] [] pos) (tDI X.K Tb (iR2 f)) :=
  pi_imp (pi_range2 hg hm ha hs hs2) fun σ H R ⟨env, ds, env', F, hf, RR, k⟩ => by
    unfold iR2 at hf
    split at hf
    · rename_i a b e1 h1
      split at hf
      · rename_i hb
        rw [Bool.and_eq_true] at hb
        cases hf
        refine ⟨env, _, _, F, h1, RR, fun F1 H1 vs S1 D1 => ?_⟩
        obtain ⟨v, u, rfl, hv, hu⟩ := DtAll.two_inv D1
        obtain ⟨a1, a2⟩ := small62_iff hb.1
        obtain ⟨b1, b2⟩ := small62_iff hb.2
        exact ⟨a, b, by rw [Dt.int_inv hv, Dt.int_inv hu], ⟨a1, a2, b1, b2⟩, k F1 H1 _ S1 jok_rng⟩
      · cases hf
    · cases hf
/-- zip of two lists or two tuples -/
def zipD : D → D → Option (List D)
  | .list xs, .list ys => some ((xs.zip ys).map fun p => .tuple [p.1, p.2])
  | .tuple xs, .tuple ys => some ((xs.zip ys).map fun p => .tuple [p.1, p.2])
  | _, _ => none
def iZp (f : EM (List D)) : EM (List D) := fun env => match f env with
  | some ([x, y], e1) => match zipD x y with
    | some xs => some (xs, e1)
    | none => none
  | _ => none
theorem zip_get {xs ys : List D} {i : Nat} {d : D} (e : ((xs.zip ys).map fun p => (PyData.tuple [p.1, p.2] : D))[i]? = some d) : ∃ x y, xs[i]? = some x ∧ ys[i]? = some y ∧ d = .tuple [x, y] := by
  rw [List.getElem?_map] at e
  cases hc : (xs.zip ys)[i]? with
  | none => rw [hc] at e; cases e
  | some c =>
    rw [hc] at e
    cases e
    obtain ⟨x, y⟩ := c
    rw [List.getElem?_zip_eq_some] at hc
    exact ⟨x, y, hc.1, hc.2, rfl⟩
theorem zip_len {xs ys : List D} {i : Nat} (h : ((xs.zip ys).map fun p => (PyData.tuple [p.1, p.2] : D)).length ≤ i) : xs.length ≤ i ∨ ys.length ≤ i := by
  rw [List.length_map, List.length_zip] at h
  omega
theorem pair_new {F H : Hp} {env : Ev} {σ : L2.St} (R : RS K Tb F H env σ) {T : Addr} {x y : V} {d e : D} (hT : H T = none) (hx : Dt K F x d) (hy : Dt K F y e) :
    ∃ F', Stp K Tb F H env σ F' (upd H T (.tup [x, y])) env σ ∧ Dt K F' (.ref T) (.tuple [d, e]) := by
  have S := RS.new R hT (o := .tup [x, y]) nt_tup
  exact ⟨_, S, .tup (SqT.of upd_same) (.cons (Dt.mono S.mono hx) (.cons (Dt.mono S.mono hy) .nil))⟩
theorem jok_zipL {F0 : Hp} {a b : Addr} {vs us : List V} {ds es : List D} (ha : F0 a = some (.lst vs)) (hb : F0 b = some (.lst us)) (hd : DtAll K F0 vs ds) (he : DtAll K F0 us es) :
    JOk K Tb (Itz K a b) ((ds.zip es).map fun p => .tuple [p.1, p.2]) F0 := fun F H env σ R m i => by
  have qa : SqL K H a vs := SqL.of (R.wf.sub _ _ (m _ _ ha))
  have qb : SqL K H b us := SqL.of (R.wf.sub _ _ (m _ _ hb))
  refine ⟨fun d e => ?_, fun hi => ⟨vs, us, qa, qb, by rw [DtAll.length hd, DtAll.length he]; exact zip_len hi⟩⟩
  obtain ⟨x, y, h1, h2, rfl⟩ := zip_get e
  obtain ⟨v, g1, g2⟩ := DtAll.get hd h1
  obtain ⟨u, g3, g4⟩ := DtAll.get he h2
  refine ⟨⟨vs, us, v, u, qa, qb, g1, g3⟩, fun w H' ⟨T, x', y', e1, e2, e3, e4, e5⟩ => ?_⟩
  have e4 := e4 vs qa
  have e5 := e5 us qb
  rw [g1] at e4; cases e4
  rw [g3] at e5; cases e5
  subst e1; subst e3
  exact pair_new R e2 (Dt.mono m g2) (Dt.mono m g4)
theorem jok_zipT {F0 : Hp} {a b : Addr} {vs us : List V} {ds es : List D} (ha : SqT K F0 a vs) (hb : SqT K F0 b us) (hd : DtAll K F0 vs ds) (he : DtAll K F0 us es) :
    JOk K Tb (RZ.ItzT K a b) ((ds.zip es).map fun p => .tuple [p.1, p.2]) F0 := fun F H env σ R m i => by
  have qa : SqT K H a vs := SqT.mono R.wf.sub (SqT.mono m ha)
  have qb : SqT K H b us := SqT.mono R.wf.sub (SqT.mono m hb)
  refine ⟨fun d e => ?_, fun hi => ⟨vs, us, qa, qb, by rw [DtAll.length hd, DtAll.length he]; exact zip_len hi⟩⟩
  obtain ⟨x, y, h1, h2, rfl⟩ := zip_get e
  obtain ⟨v, g1, g2⟩ := DtAll.get hd h1
  obtain ⟨u, g3, g4⟩ := DtAll.get he h2
  refine ⟨⟨vs, us, v, u, qa, qb, g1, g3⟩, fun w H' ⟨T, x', y', e1, e2, e3, e4, e5⟩ => ?_⟩
  have e4 := e4 vs qa
  have e5 := e5 us qb
  rw [g1] at e4; cases e4
  rw [g3] at e5; cases e5
  subst e1; subst e3
  exact pair_new R e2 (Dt.mono m g2) (Dt.mono m g4)
theorem d_zip {e e2 : Expr} {p pos tpos : Pos} {elts : List Expr} {kk : Nat} {f : EM (List D)} (hg : Gl X "zip") (hm : X.mg "zip" = none) (ha : PA X [e, e2] (tDA X.K Tb f))
    (hs : starEach [e, e2] X.env = (false, eval e X.env) :: starEach [e2] X.env := by rfl) (hpl : (backTo pos (starEach [e2] X.env)).any (·.1) = false := by rfl) :
    PI X (.Tuple elts kk tpos) (.Call (.Name "zip" p) [e, e2] [] pos) (tDI X.K Tb (iZp f)) :=
  pi_imp (RZ.pi_zipA hg hm ha hs hpl) fun σ H R ⟨env, ds, env', F, hf, RR, k⟩ => by
    unfold iZp at hf
    split at hf
    · rename_i x y e1 h1
      split at hf
      · rename_i zs hz
        cases hf
        refine ⟨env, _, _, F, h1, RR, fun F1 H1 vs S1 D1 => ?_⟩
        obtain ⟨v, u, rfl, hv, hu⟩ := DtAll.two_inv D1
        cases x <;> cases y <;> simp only [zipD] at hz <;> cases hz
        · obtain ⟨a, xs, rfl, g1, g2⟩ := Dt.list_inv hv
          obtain ⟨b, ys, rfl, g3, g4⟩ := Dt.list_inv hu
          exact ⟨a, b, xs, ys, rfl, .inl ⟨SqL.of (S1.rs.wf.sub _ _ g1), SqL.of (S1.rs.wf.sub _ _ g3), k F1 H1 _ S1 (jok_zipL g1 g3 g2 g4)⟩⟩
        · obtain ⟨a, xs, rfl, g1, g2⟩ := Dt.tup_inv hv
          obtain ⟨b, ys, rfl, g3, g4⟩ := Dt.tup_inv hu
          exact ⟨a, b, xs, ys, rfl, .inr ⟨SqT.mono S1.rs.wf.sub g1, SqT.mono S1.rs.wf.sub g3, k F1 H1 _ S1 (jok_zipT g1 g3 g2 g4)⟩⟩
      · cases hf
    · cases hf

/-! ### targets -/
abbrev GM := D → Ev → Option Ev
def gN (i : Nat) : GM := fun d env => if i < env.length then some (env.set i (.fz d)) else none
/-- nothing but these slots is stored -/
def Off (vs : List Nat) (σ σ' : L2.St) : Prop := σ'.length = σ.length ∧ ∀ j, j ∉ vs → σ'[j]? = σ[j]?
theorem Off.refl {vs : List Nat} {σ : L2.St} : Off vs σ σ := ⟨rfl, fun _ _ => rfl⟩
theorem Off.trans {vs : List Nat} {σ σ1 σ2 : L2.St} (a : Off vs σ σ1) (b : Off vs σ1 σ2) : Off vs σ σ2 := ⟨b.1.trans a.1, fun j h => (b.2 j h).trans (a.2 j h)⟩
theorem wipe_at {σ : L2.St} {j : Nat} : ∀ {vs : List Nat}, (wipe σ vs)[j]? = if j ∈ vs then (σ[j]?).map (fun _ => (none : Option V)) else σ[j]?
  | [] => by simp [wipe]
  | v :: vs => by
    have ih := wipe_at (σ := σ) (j := j) (vs := vs)
    unfold wipe
    by_cases hj : v = j
    · subst hj
      rw [List.getElem?_set_self']
      rw [if_pos (by simp), ih]
      split
      · cases σ[v]? <;> rfl
      · rfl
    · rw [List.getElem?_set_ne hj, ih]
      have e : (j ∈ v :: vs) ↔ j ∈ vs := by
        simp only [List.mem_cons]
        exact ⟨fun h => h.resolve_left fun z => hj z.symm, .inr⟩
      simp only [e]
theorem Off.wipe {vs : List Nat} {σ σ' : L2.St} (h : Off vs σ σ') : L2.wipe σ' vs = L2.wipe σ vs := by
  refine List.ext_getElem? fun j => ?_
  rw [wipe_at, wipe_at]
  split
  · cases h1 : σ'[j]? with
    | none =>
      have e1 := List.getElem?_eq_none_iff.mp h1
      rw [h.1] at e1
      rw [List.getElem?_eq_none_iff.mpr e1]
    | some y =>
      have e1 := (List.getElem?_eq_some_iff.mp h1).1
      rw [h.1] at e1
      rw [List.getElem?_eq_getElem e1]
      rfl
  · rename_i hj
    exact h.2 j hj
def tDG (K : PySem.W.Frag) (Tb : List Addr) (vs : List Nat) (g : GM) : TG := fun v σ H Q => ∃ d env env' F, g d env = some env' ∧ RS K Tb F H env σ ∧ Dt K F v d ∧ ∀ F' H' σ', Stp K Tb F H env σ F' H' env' σ' → Off vs σ σ' → Q σ' H'
abbrev GMs := List D → Ev → Option Ev
def tDGs (K : PySem.W.Frag) (Tb : List Addr) (ws : List Nat) (g : GMs) : TGs := fun vs σ H Q => ∃ ds env env' F, g ds env = some env' ∧ RS K Tb F H env σ ∧ DtAll K F vs ds ∧ ∀ F' H' σ', Stp K Tb F H env σ F' H' env' σ' → Off ws σ σ' → Q σ' H'
theorem pg_imp {tg : Expr} {t t' : TG} (h : PG X tg t) (i : ∀ v σ H Q, t' v σ H Q → t v σ H Q) : PG X tg t' := ⟨fun pins s σ H x v Q I r q => h.run pins s σ H x v Q I r (i _ _ _ _ q)⟩
theorem pgs_imp {tg : List Expr} {t t' : TGs} (h : PGs X tg t) (i : ∀ v σ H Q, t' v σ H Q → t v σ H Q) : PGs X tg t' := ⟨fun pins s σ H x v Q I r q => h.run pins s σ H x v Q I r (i _ _ _ _ q)⟩
theorem d_gname {i : Nat} {x : Str} {pos : Pos} {vs : List Nat} (hN : X.N.Nodup) (hi : X.N[i]? = some x) (hx : Loc X.env.scope x) (hv : i ∈ vs) (hf : X.fn x = true ∨ X.env.scope.names.lookup x = some .local := by first | exact .inl rfl | exact .inr rfl | assumption) : PG X (.Name x pos) (tDG X.K Tb vs (gN i)) :=
  pg_imp (pg_name hN hi hx hf) fun v σ H Q ⟨d, env, env', F, hg, R, hd, k⟩ => by
    unfold gN at hg
    split at hg
    · rename_i h
      cases hg
      refine k F H _ (RS.store R h hd) ⟨by rw [List.length_set], fun j hj => ?_⟩
      rw [List.getElem?_set_ne (fun z => hj (by rw [← z]; exact hv))]
    · cases hg
def gNilD : GMs := fun ds env => match ds with
  | [] => some env
  | _ => none
def gConsD (g : GM) (gs : GMs) : GMs := fun ds env => match ds with
  | d :: r => match g d env with
    | some e1 => gs r e1
    | none => none
  | _ => none
def gTupD (n : Nat) (gs : GMs) : GM := fun d env => match d with
  | .tuple ds => if ds.length = n then gs ds env else none
  | _ => none
theorem d_gnil {vs : List Nat} : PGs X [] (tDGs X.K Tb vs gNilD) := pgs_imp pgs_nil fun vs σ H Q ⟨ds, env, env', F, hg, R, hd, k⟩ => by
  cases ds with
  | nil =>
    cases hg
    cases hd
    exact ⟨rfl, k F H σ (Stp.refl R) Off.refl⟩
  | cons d r => cases hg
theorem d_gcons {vs : List Nat} {e : Expr} {es : List Expr} {g : GM} {gs : GMs} (h1 : PG X e (tDG X.K Tb vs g)) (h2 : PGs X es (tDGs X.K Tb vs gs))
    (hs : (assignEach (e :: es) X.env).map (·.2) = assign e X.env :: (assignEach es X.env).map (·.2) := by rfl) : PGs X (e :: es) (tDGs X.K Tb vs (gConsD g gs)) := pgs_imp (pgs_cons h1 h2 hs) fun vs σ H Q ⟨ds, env, env', F, hg, R, hd, k⟩ => by
  unfold gConsD at hg
  split at hg
  · rename_i d r
    split at hg
    · rename_i e1 h1
      cases hd with
      | cons a t =>
        exact ⟨_, _, rfl, ⟨d, env, e1, F, h1, R, a, fun F1 H1 σ1 S1 o1 => ⟨r, e1, env', F1, hg, S1.rs, DtAll.mono S1.mono t, fun F2 H2 σ2 S2 o2 => k F2 H2 σ2 (S1.trans S2) (o1.trans o2)⟩⟩⟩
    · cases hg
  · cases hg
theorem d_gtup {vs : List Nat} {es : List Expr} {k : Nat} {pos : Pos} {gs : GMs} {n : Nat} (hc : X.calm = true) (h : PGs X es (tDGs X.K Tb vs gs))
    (hn : (assignEach es X.env).length = n := by rfl) (hst : (assignEach es X.env).findIdx? (·.1) = none := by rfl) : PG X (.Tuple es k pos) (tDG X.K Tb vs (gTupD n gs)) := pg_imp (pg_tup hc h hn hst) fun v σ H Q ⟨d, env, env', F, hg, R, hd, k⟩ => by
  unfold gTupD at hg
  split at hg
  · rename_i ds
    split at hg
    · rename_i hl
      obtain ⟨a, xs, rfl, g1, g2⟩ := Dt.tup_inv hd
      exact ⟨a, xs, rfl, SqT.mono R.wf.sub g1, by rw [DtAll.length g2]; exact hl, ⟨ds, env, env', F, hg, R, g2, k⟩⟩
    · cases hg
  · cases hg
end
end DL

namespace DL
open PySem PySem.Spec PyProof.Rows L2 GxR
section
variable {X : Cx} {K : PySem.W.Frag} {Tb : List Addr}
/-! ### blocks -/
def unE (env : Ev) : List Nat → Ev
  | [] => env
  | v :: vs => (unE env vs).set v .un
def keepF : Option SV → SV
  | some (.fz d) => .fz d
  | _ => .un
def reE (env0 env1 : Ev) : List Nat → Ev
  | [] => env1
  | v :: vs => (reE env0 env1 vs).set v (keepF env0[v]?)
theorem unE_len {env : Ev} : ∀ {vs : List Nat}, (unE env vs).length = env.length
  | [] => rfl
  | v :: vs => by unfold unE; rw [List.length_set, unE_len]
theorem reE_len {env0 env1 : Ev} : ∀ {vs : List Nat}, (reE env0 env1 vs).length = env1.length
  | [] => rfl
  | v :: vs => by unfold reE; rw [List.length_set, reE_len]
theorem unE_at {env : Ev} {j : Nat} {x : SV} : ∀ {vs : List Nat}, (unE env vs)[j]? = some x → (j ∈ vs ∧ x = .un) ∨ (j ∉ vs ∧ env[j]? = some x)
  | [], h => .inr ⟨by simp, h⟩
  | v :: vs, h => by
    unfold unE at h
    by_cases hj : v = j
    · subst hj
      have hl : v < (unE env vs).length := by
        have := (List.getElem?_eq_some_iff.mp h).1
        rwa [List.length_set] at this
      rw [List.getElem?_set_self hl] at h
      exact .inl ⟨by simp, (Option.some.inj h).symm⟩
    · rw [List.getElem?_set_ne hj] at h
      rcases unE_at h with ⟨a, b⟩ | ⟨a, b⟩
      · exact .inl ⟨List.mem_cons_of_mem _ a, b⟩
      · exact .inr ⟨by simp only [List.mem_cons, not_or]; exact ⟨fun e => hj e.symm, a⟩, b⟩
theorem reE_at {env0 env1 : Ev} {j : Nat} {x : SV} : ∀ {vs : List Nat}, (reE env0 env1 vs)[j]? = some x → (j ∈ vs ∧ x = keepF env0[j]?) ∨ (j ∉ vs ∧ env1[j]? = some x)
  | [], h => .inr ⟨by simp, h⟩
  | v :: vs, h => by
    unfold reE at h
    by_cases hj : v = j
    · subst hj
      have hl : v < (reE env0 env1 vs).length := by
        have := (List.getElem?_eq_some_iff.mp h).1
        rwa [List.length_set] at this
      rw [List.getElem?_set_self hl] at h
      exact .inl ⟨by simp, (Option.some.inj h).symm⟩
    · rw [List.getElem?_set_ne hj] at h
      rcases reE_at h with ⟨a, b⟩ | ⟨a, b⟩
      · exact .inl ⟨List.mem_cons_of_mem _ a, b⟩
      · exact .inr ⟨by simp only [List.mem_cons, not_or]; exact ⟨fun e => hj e.symm, a⟩, b⟩
theorem wipe_idem {σ : L2.St} {vs : List Nat} : wipe (wipe σ vs) vs = wipe σ vs := by
  refine List.ext_getElem? fun j => ?_
  rw [wipe_at, wipe_at]
  split
  · cases σ[j]? <;> rfl
  · rfl
theorem RS.wipe {F H : Hp} {env : Ev} {σ : L2.St} {vs : List Nat} (h : RS K Tb F H env σ) : Stp K Tb F H env σ F H (unE env vs) (L2.wipe σ vs) := by
  have old : ∀ (j : Nat) (y : SV), (unE env vs)[j]? = some y → y.own = true → env[j]? = some y ∧ (L2.wipe σ vs)[j]? = σ[j]? := fun j y q o => by
    rcases unE_at q with ⟨a, rfl⟩ | ⟨a, b⟩
    · cases o
    · exact ⟨b, by rw [wipe_at, if_neg a]⟩
  refine ⟨Mono.refl, fun b u q nt no => ⟨q, id⟩, fun b q => q, ⟨h.wf, by rw [unE_len, wipe_length]; exact h.len, fun j y q => ?_, fun j k y z q1 q2 o1 o2 q3 => ?_⟩, fun b q => .inl ?_⟩
  · rcases unE_at q with ⟨a, rfl⟩ | ⟨a, b⟩
    · have hj : j < (L2.wipe σ vs).length := by
        rw [wipe_length, ← h.len, ← unE_len (vs := vs)]
        exact (List.getElem?_eq_some_iff.mp q).1
      exact ⟨_, List.getElem?_eq_getElem hj, trivial⟩
    · obtain ⟨w, h1, h2⟩ := h.slot j y b
      exact ⟨w, by rw [wipe_at, if_neg a]; exact h1, h2⟩
  · obtain ⟨a1, b1⟩ := old j y q1 o1
    obtain ⟨a2, b2⟩ := old k z q2 o2
    rw [b1, b2] at q3
    exact h.sep _ _ y z a1 a2 o1 o2 q3
  · obtain ⟨j, y, q1, q2, q3⟩ := q
    obtain ⟨a1, b1⟩ := old j y q1 q2
    exact ⟨j, y, a1, q2, by rw [← b1]; exact q3⟩
/-- behind a block: its names as they were, where they stand still -/
theorem Stp.restore {F0 H0 F H : Hp} {env0 env : Ev} {σ : L2.St} {vs : List Nat} (R0 : RS K Tb F0 H0 env0 σ) (S : Stp K Tb F0 H0 env0 σ F H env (L2.wipe σ vs)) : Stp K Tb F0 H0 env0 σ F H (reE env0 env vs) σ := by
  have old : ∀ (j : Nat) (y : SV), (reE env0 env vs)[j]? = some y → y.own = true → env[j]? = some y ∧ (L2.wipe σ vs)[j]? = σ[j]? := fun j y q o => by
    rcases reE_at q with ⟨a, rfl⟩ | ⟨a, b⟩
    · unfold keepF at o
      split at o <;> cases o
    · exact ⟨b, by rw [wipe_at, if_neg a]⟩
  refine ⟨S.mono, S.keep, S.dom, ⟨S.rs.wf, ?_, fun j y q => ?_, fun j k y z q1 q2 o1 o2 q3 => ?_⟩, fun b q => ?_⟩
  · rw [reE_len, S.rs.len, wipe_length]
  · rcases reE_at q with ⟨a, rfl⟩ | ⟨a, b⟩
    · have hj : j < σ.length := by
        rw [← wipe_length σ vs, ← S.rs.len, ← reE_len (env0 := env0) (vs := vs)]
        exact (List.getElem?_eq_some_iff.mp q).1
      unfold keepF
      split
      · rename_i d e
        obtain ⟨v, h1, h2⟩ := R0.fz e
        exact ⟨_, h1, Dt.mono S.mono h2⟩
      · exact ⟨_, List.getElem?_eq_getElem hj, trivial⟩
    · obtain ⟨w, h1, h2⟩ := S.rs.slot j y b
      rw [wipe_at, if_neg a] at h1
      exact ⟨w, h1, h2⟩
  · obtain ⟨a1, b1⟩ := old j y q1 o1
    obtain ⟨a2, b2⟩ := old k z q2 o2
    rw [← b1, ← b2] at q3
    exact S.rs.sep _ _ y z a1 a2 o1 o2 q3
  · obtain ⟨j, y, q1, q2, q3⟩ := q
    obtain ⟨a1, b1⟩ := old j y q1 q2
    exact S.sub b ⟨j, y, a1, q2, by rw [b1]; exact q3⟩
/-- a new list of our own is written -/
theorem Stp.putFree {F0 H0 F H : Hp} {env0 env : Ev} {σ0 σ : L2.St} {p : Addr} {xs zs : List V} (S : Stp K Tb F0 H0 env0 σ0 F H env σ) (h0 : H0 p = none) (hF : F p = none) (no : ¬ Owned env σ p) (hH : H p = some (.lst xs)) :
    Stp K Tb F0 H0 env0 σ0 F (upd H p (.lst zs)) env σ := by
  refine ⟨S.mono, fun b u q nt n => ⟨by rw [upd_ne (ne_of_none q h0)]; exact (S.keep b u q nt n).1, (S.keep b u q nt n).2⟩, fun b q => ?_, ⟨⟨fun a u q => by rw [upd_ne (ne_of_none q hF)]; exact S.rs.wf.sub a u q, S.rs.wf.nt, fun P hP => ?_⟩, S.rs.len, fun j y q => ?_, S.rs.sep⟩, S.sub⟩
  · by_cases hb : b = p
    · subst hb; exact h0
    · rw [upd_ne hb] at q; exact S.dom b q
  · obtain ⟨ps, q, t⟩ := S.rs.wf.tabs P hP
    refine ⟨ps, ?_, t⟩
    rw [upd_ne fun z => by rw [z, hH] at q; cases q]
    exact q
  · obtain ⟨w, h1, h2⟩ := S.rs.slot j y q
    refine ⟨w, h1, ?_⟩
    match y, w, q, h1, h2 with
    | .un, _, _, _, _ => trivial
    | .fz d, some v, _, _, h2 => exact h2
    | .sq ds, some (.ref q), _, _, h2 => exact h2
    | .ow tg ds, some (.ref r), q, h1, ⟨⟨tq, a⟩, us, b, c⟩ =>
      have ne : r ≠ p := fun z => no (by rw [← z]; exact ⟨j, _, q, rfl, h1⟩)
      exact ⟨⟨tq, a⟩, us, by rw [upd_ne ne]; exact b, c⟩
    | .dk ds, some (.ref r), q, h1, ⟨a, us, b, c⟩ =>
      have ne : r ≠ p := fun z => no (by rw [← z]; exact ⟨j, _, q, rfl, h1⟩)
      exact ⟨a, us, by rw [upd_ne ne]; exact b, c⟩

/-! ### list comprehensions -/
def cLoop (vs : List Nat) (g : GM) (c : EM Bool) (e : EM D) : List D → Ev → Option (List D × Ev)
  | [], env => some ([], env)
  | d :: ds, env => match g d env with
    | some e1 => match c e1 with
      | some (true, e2) => match e e2 with
        | some (y, e3) => match cLoop vs g c e ds (unE e3 vs) with
          | some (ys, e4) => some (y :: ys, e4)
          | none => none
        | none => none
      | some (false, e2) => cLoop vs g c e ds (unE e2 vs)
      | none => none
    | none => none
def cC (vs : List Nat) (it : EM (List D)) (g : GM) (c : EM Bool) (e : EM D) : EM (List D) := fun env => match it env with
  | some (ds, e1) => match cLoop vs g c e ds (unE e1 vs) with
    | some (ys, e2) => if ys.length ≤ sizeLine then some (ys, reE e1 e2 vs) else none
    | none => none
  | none => none
def cYes : EM Bool := fun env => some (true, env)
theorem drop_some {ds : List D} {i : Nat} (h : i < ds.length) : ∃ d, ds[i]? = some d ∧ ds.drop i = d :: ds.drop (i + 1) := ⟨ds[i], List.getElem?_eq_getElem h, List.drop_eq_getElem_cons h⟩
theorem lc_reading {vs : List Nat} {it : EM (List D)} {g : GM} {c : EM Bool} {e : EM D} {σ : L2.St} {H : Hp} {Q : VK} (h : tNew K Tb (cC vs it g c e) σ H Q) : tLc (tDI K Tb it) (tDG K Tb vs g) (tDT K Tb c) (tD K Tb e) vs σ H Q := by
  obtain ⟨env, ys, env', F, hf, R, k⟩ := h
  unfold cC at hf
  split at hf
  · rename_i ds e1 h1
    split at hf
    · rename_i ys' e2 h2
      split at hf
      · rename_i hz
        cases hf
        refine ⟨env, ds, e1, F, h1, R, fun F1 H1 J S1 jok D hD => ?_⟩
        have fD : F1 D = none := lay_none S1.rs hD
        obtain ⟨SA, noA⟩ := RS.alloc (o := .lst []) S1.rs hD nt_lst
        refine ⟨fun i m H' => m = ds.length - i ∧ ∃ F' env' us outs rest, Stp K Tb F1 H1 e1 σ F' H' env' (wipe σ vs) ∧ H' D = some (.lst us) ∧ F' D = none ∧ ¬ Owned env' (wipe σ vs) D ∧ DtAll K F' us outs ∧
          cLoop vs g c e (ds.drop i) env' = some (rest, e2) ∧ outs ++ rest = ys, ⟨ds.length, rfl, F1, _, [], [], ys, SA.trans (RS.wipe SA.rs), upd_same, fD, ?_, .nil, h2, rfl⟩, ?_⟩
        · intro z
          rcases (RS.wipe (vs := vs) SA.rs).sub D z with z | z
          · exact noA z
          · rw [upd_same] at z; cases z
        · rintro i m H' ⟨rfl, F', env', us, outs, rest, S, hl, hF, no, hd, hr, ho⟩
          by_cases hi : i < ds.length
          · obtain ⟨d, hd1, hd2⟩ := drop_some hi
            rw [hd2] at hr
            obtain ⟨go, yl⟩ := (jok F' H' env' _ S.rs S.mono i).1 d hd1
            refine .inr ⟨go, fun H' => ∃ F' env' us outs rest, Stp K Tb F1 H1 e1 σ F' H' env' (wipe σ vs) ∧ H' D = some (.lst us) ∧ F' D = none ∧ ¬ Owned env' (wipe σ vs) D ∧ DtAll K F' us outs ∧
              cLoop vs g c e (ds.drop (i + 1)) env' = some (rest, e2) ∧ outs ++ rest = ys, fun H'' hN => ⟨ds.length - (i + 1), by omega, rfl, hN⟩, fun x H2 hy => ?_⟩
            obtain ⟨F2, S2, dx⟩ := yl x H2 hy
            unfold cLoop at hr
            split at hr
            · rename_i w1 g1
              refine ⟨d, env', w1, F2, g1, S2.rs, dx, fun F3 H3 σ3 S3 o3 => ⟨by rw [o3.wipe, wipe_idem], ?_⟩⟩
              have S23 := S2.trans S3
              -- what stands at D behind a step from here
              have atD : ∀ {F5 H5 : Hp} {env5 : Ev} {σ5 : L2.St}, Stp K Tb F' H' env' (wipe σ vs) F5 H5 env5 σ5 → H5 D = some (.lst us) ∧ F5 D = none ∧ ¬ Owned env5 σ5 D := fun {F5 H5 env5 σ5} S5 => by
                obtain ⟨a, b⟩ := S5.keep D _ hl nt_lst no
                refine ⟨a, b hF, fun z => ?_⟩
                rcases S5.sub D z with z | z
                · exact no z
                · rw [hl] at z; cases z
              split at hr
              · rename_i w2 c1
                refine ⟨w1, true, w2, F3, c1, S3.rs, fun F4 H4 S4 => ?_⟩
                show tD K Tb e σ3 H4 _
                split at hr
                · rename_i y w3 y1
                  split at hr
                  · rename_i zs w4 r1
                    cases hr
                    refine ⟨w2, y, w3, F4, y1, S4.rs, fun F5 H5 v S5 dv => ?_⟩
                    have S25 := (S23.trans S4).trans S5
                    obtain ⟨hl5, hF5, no5⟩ := atD S25
                    have hlen : outs.length + (zs.length + 1) = ys.length := by
                      rw [← ho, List.length_append, List.length_cons]
                    refine ⟨us, hl5, by rw [DtAll.length hd]; omega, ?_⟩
                    have SP := Stp.putFree (zs := us ++ [v]) (S.trans S25) hD hF5 no5 hl5
                    have SW := RS.wipe (vs := vs) SP.rs
                    rw [o3.wipe, wipe_idem] at SW
                    refine ⟨F5, _, us ++ [v], outs ++ [y], zs, SP.trans SW, upd_same, hF5, fun z => ?_, DtAll.append (DtAll.mono S25.mono hd) (.cons dv .nil), r1, by rw [List.append_assoc]; exact ho⟩
                    rcases SW.sub D z with z | z
                    · exact no5 z
                    · rw [upd_same] at z; cases z
                  · cases hr
                · cases hr
              · rename_i w2 c1
                refine ⟨w1, false, w2, F3, c1, S3.rs, fun F4 H4 S4 => ?_⟩
                show ∃ F' env' us outs rest, _
                have S24 := S23.trans S4
                obtain ⟨hl5, hF5, no5⟩ := atD S24
                have SW := RS.wipe (vs := vs) S4.rs
                rw [o3.wipe, wipe_idem] at SW
                refine ⟨F4, _, us, outs, rest, (S.trans S24).trans SW, hl5, hF5, fun z => ?_, DtAll.mono S24.mono hd, hr, ho⟩
                rcases SW.sub D z with z | z
                · exact no5 z
                · rw [hl5] at z; cases z
              · cases hr
            · cases hr
          · have hdr : ds.drop i = [] := List.drop_of_length_le (by omega)
            rw [hdr] at hr
            cases hr
            rw [List.append_nil] at ho
            subst ho
            refine .inl ⟨(jok F' H' _ _ S.rs S.mono i).2 (by omega), ?_⟩
            have S9 := Stp.restore S1.rs S
            refine k F' H' D us (S1.trans S9) (S1.dom D hD) hF hl (fun z => ?_) hd
            rcases S9.sub D z with z2 | z2
            · obtain ⟨j, y, q1, q2, q3⟩ := z2
              exact (S1.rs.ownF ⟨j, y, q1, q2, q3⟩).2 hD
            · obtain ⟨j, y, q1, q2, q3⟩ := z
              rcases reE_at q1 with ⟨a, rfl⟩ | ⟨a, b⟩
              · unfold keepF at q2
                split at q2 <;> cases q2
              · exact no ⟨j, y, b, q2, by rw [wipe_at, if_neg a]; exact q3⟩
      · cases hf
    · cases hf
  · cases hf
theorem d_lc {elt tg iter : Expr} {ifs : List Expr} {scope : Scope} {own : List (Str × Nat)} {pos : Pos} {it : EM (List D)} {g : GM} {c : EM Bool} {e : EM D} (hc : X.calm = true) (hN : X.N.Nodup) (ok : BlkOk X.N X.env.scope scope own) (hi : PI X tg iter (tDI X.K Tb it))
    (hg : ∀ (s : Shared) (H : Hp) (C : Addr) (cl : List (Str × Addr)) (fp : List Addr), PG (X.blk s H scope (compEnvC scope cl C X.env) fp) tg (tDG X.K Tb (own.map (·.2)) g)) (ht : ∀ (s : Shared) (H : Hp) (C : Addr) (cl : List (Str × Addr)) (fp : List Addr), PTs (X.blk s H scope (compEnvC scope cl C X.env) fp) ifs (tDT X.K Tb c))
    (he : ∀ (s : Shared) (H : Hp) (C : Addr) (cl : List (Str × Addr)) (fp : List Addr), PE (X.blk s H scope (compEnvC scope cl C X.env) fp) elt (tD X.K Tb e)) (hs : ∀ x, foldedSetIterable iter X.env x = pure x := by intro _; rfl) :
    PE X (.ListComp elt [⟨tg, iter, ifs, 0⟩] scope pos) (tNew X.K Tb (cC (own.map (·.2)) it g c e)) :=
  pe_imp (pe_lc hc hN hi ok hg ht he hs) fun σ H Q h => lc_reading h
theorem d_pts0 : PTs X [] (tDT X.K Tb cYes) := ⟨fun pins s σ H Q I ⟨env, b, env', F, hf, R, k⟩ => by
  cases hf
  exact pts_nil.run pins s σ H Q I (k F H (Stp.refl R))⟩
theorem d_pts1 {c : Expr} {gc : EM Bool} (h : PT X c (tDT X.K Tb gc)) : PTs X [c] (tDT X.K Tb gc) := pts_one h

/-! ### all, any, sum of a generator expression -/
theorem RS.tabbed {F H H2 : Hp} {env : Ev} {σ : L2.St} {P : Addr} (R : RS K Tb F H env σ) (hP : TabG H P) (t : Tabbed P H H2) : Stp K Tb F H env σ F H2 env σ := by
  obtain ⟨ps, eP, _⟩ := hP
  have nP : ∀ b u, H b = some u → NT u → b ≠ P := fun b u q nt z => by
    subst z
    rw [eP] at q
    exact nt ps (Option.some.inj q).symm
  refine ⟨Mono.refl, fun b u q nt no => ⟨by rw [t.2 b (nP b u q nt)]; exact q, id⟩, fun b q => ?_, ⟨⟨fun a u q => ?_, R.wf.nt, fun Q hQ => ?_⟩, R.len, fun j y q => ?_, R.sep⟩, fun b q => .inl q⟩
  · by_cases hb : b = P
    · subst hb
      obtain ⟨⟨qs, e, _⟩, _⟩ := t
      rw [e] at q; cases q
    · rw [t.2 b hb] at q; exact q
  · have := R.wf.sub a u q
    rw [t.2 a (nP a u this (R.wf.nt a u q))]
    exact this
  · by_cases hb : Q = P
    · subst hb; exact t.1
    · obtain ⟨qs, e, h⟩ := R.wf.tabs Q hQ
      exact ⟨qs, by rw [t.2 Q hb]; exact e, h⟩
  · obtain ⟨w, h1, h2⟩ := R.slot j y q
    refine ⟨w, h1, ?_⟩
    match y, w, h2 with
    | .un, _, _ => trivial
    | .fz d, some v, h2 => exact h2
    | .sq ds, some (.ref q), h2 => exact h2
    | .ow tg ds, some (.ref r), ⟨⟨tq, a⟩, us, b, c⟩ => exact ⟨⟨tq, a⟩, us, by rw [t.2 r (nP r _ b nt_lst)]; exact b, c⟩
    | .dk ds, some (.ref r), ⟨a, us, b, c⟩ => exact ⟨a, us, by rw [t.2 r (nP r _ b (fun _ z => by cases z))]; exact b, c⟩
def aLoop (stop : Bool) (vs : List Nat) (g : GM) (c : EM Bool) (e : EM D) : List D → Ev → Option (Bool × Ev)
  | [], env => some (!stop, env)
  | d :: ds, env => match g d env with
    | some e1 => match c e1 with
      | some (true, e2) => match e e2 with
        | some (.bool k, e3) => if k = stop then some (stop, unE e3 vs) else aLoop stop vs g c e ds (unE e3 vs)
        | _ => none
      | some (false, e2) => aLoop stop vs g c e ds (unE e2 vs)
      | none => none
    | none => none
def aCnt (stop : Bool) (vs : List Nat) (g : GM) (c : EM Bool) (e : EM D) : List D → Ev → Nat
  | [], env => 0
  | d :: ds, env => match g d env with
    | some e1 => match c e1 with
      | some (true, e2) => match e e2 with
        | some (.bool k, e3) => if k = stop then 1 else aCnt stop vs g c e ds (unE e3 vs) + 1
        | _ => 0
      | some (false, e2) => aCnt stop vs g c e ds (unE e2 vs)
      | none => 0
    | none => 0
theorem aCnt_cons {stop : Bool} {vs : List Nat} {g : GM} {c : EM Bool} {e : EM D} {d : D} {ds : List D} {env : Ev} : aCnt stop vs g c e (d :: ds) env = (match g d env with
    | some e1 => match c e1 with
      | some (true, e2) => match e e2 with
        | some (.bool k, e3) => if k = stop then 1 else aCnt stop vs g c e ds (unE e3 vs) + 1
        | _ => 0
      | some (false, e2) => aCnt stop vs g c e ds (unE e2 vs)
      | none => 0
    | none => 0) := rfl
def cA (stop : Bool) (vs : List Nat) (it : EM (List D)) (g : GM) (c : EM Bool) (e : EM D) : EM D := fun env => match it env with
  | some (ds, e1) => match aLoop stop vs g c e ds (unE e1 vs) with
    | some (b, e2) => some (.bool b, reE e1 e2 vs)
    | none => none
  | none => none
def zS (stop : Bool) (Q : VK) : TZ := fun _ y H C => ∃ k, y = V.bl k ∧ if k = stop then Q (.bl stop) H else C
theorem gen_reading {P : Addr} (hP : P ∈ Tb) {stop : Bool} {vs : List Nat} {it : EM (List D)} {g : GM} {c : EM Bool} {e : EM D} {σ : L2.St} {H : Hp} {Q : VK} (h : tD K Tb (cA stop vs it g c e) σ H Q) :
    tGen P (tDI K Tb it) (tDG K Tb vs g) (tDT K Tb c) (tD K Tb e) vs (zS stop Q) (Q (.bl (!stop))) (fun _ => True) σ H := by
  obtain ⟨env, b0, env', F, hf, R, k⟩ := h
  unfold cA at hf
  split at hf
  · rename_i ds e1 h1
    split at hf
    · rename_i b e2 h2
      cases hf
      refine ⟨env, ds, e1, F, h1, R, fun F1 H1 J S1 jok => ⟨S1.rs.wf.tabs P hP, fun H2 tb => ?_⟩⟩
      have ST := RS.tabbed S1.rs (S1.rs.wf.tabs P hP) tb
      refine ⟨fun i m r H' => r = ds.length - i ∧ ∃ F' env', Stp K Tb F1 H1 e1 σ F' H' env' (wipe σ vs) ∧ aLoop stop vs g c e (ds.drop i) env' = some (b, e2) ∧ m = aCnt stop vs g c e (ds.drop i) env',
        ⟨_, _, trivial, rfl, F1, _, ST.trans (RS.wipe ST.rs), h2, rfl⟩, ?_⟩
      rintro i m r H' ⟨rfl, F', env', S, hr, rfl⟩
      by_cases hi : i < ds.length
      · obtain ⟨d, hd1, hd2⟩ := drop_some hi
        rw [hd2] at hr ⊢
        obtain ⟨go, yl⟩ := (jok F' H' env' _ S.rs S.mono i).1 d hd1
        refine .inr ⟨go, fun x H2 hy => ?_⟩
        obtain ⟨F2, S2, dx⟩ := yl x H2 hy
        unfold aLoop at hr
        rw [aCnt_cons]
        split at hr
        · rename_i w1 g1
          refine ⟨d, env', w1, F2, g1, S2.rs, dx, fun F3 H3 σ3 S3 o3 => ⟨by rw [o3.wipe, wipe_idem], ?_⟩⟩
          have S23 := S2.trans S3
          simp only [g1]
          split at hr
          · rename_i w2 c1
            refine ⟨w1, true, w2, F3, c1, S3.rs, fun F4 H4 S4 => ?_⟩
            simp only [c1, if_true]
            split at hr
            · rename_i kb w3 y1
              skip
              by_cases hk : kb = stop
              · rw [if_pos hk] at hr ⊢
                cases hr
                refine ⟨0, rfl, w2, _, w3, F4, y1, S4.rs, fun F5 H5 v S5 dv => ⟨kb, Dt.bl_inv dv, ?_⟩⟩
                rw [if_pos hk]
                have S25 := (S23.trans S4).trans S5
                have SW := RS.wipe (vs := vs) S5.rs
                rw [o3.wipe, wipe_idem] at SW
                exact k F5 H5 _ (S1.trans (Stp.restore S1.rs ((S.trans S25).trans SW))) (.bl stop)
              · rw [if_neg hk] at hr ⊢
                refine ⟨_, rfl, w2, _, w3, F4, y1, S4.rs, fun F5 H5 v S5 dv => ⟨kb, Dt.bl_inv dv, ?_⟩⟩
                rw [if_neg hk]
                have S25 := (S23.trans S4).trans S5
                have SW := RS.wipe (vs := vs) S5.rs
                rw [o3.wipe, wipe_idem] at SW
                exact ⟨_, rfl, F5, _, (S.trans S25).trans SW, hr, rfl⟩
            · cases hr
          · rename_i w2 c1
            refine ⟨w1, false, w2, F3, c1, S3.rs, fun F4 H4 S4 => ?_⟩
            simp only [c1, Bool.false_eq_true, if_false]
            have S24 := S23.trans S4
            have SW := RS.wipe (vs := vs) S4.rs
            rw [o3.wipe, wipe_idem] at SW
            exact ⟨_, by omega, rfl, F4, _, (S.trans S24).trans SW, hr, rfl⟩
          · cases hr
        · cases hr
      · have hdr : ds.drop i = [] := List.drop_of_length_le (by omega)
        rw [hdr] at hr ⊢
        cases hr
        exact .inl ⟨(jok F' H' _ _ S.rs S.mono i).2 (by omega), rfl, k F' H' _ (S1.trans (Stp.restore S1.rs S)) (.bl _)⟩
    · cases hf
  · cases hf
theorem tGen_imp {P : Addr} {wi : TI} {g : TG} {tt : TT} {te : TE} {vs : List Nat} {Z Z' : TZ} {Fin : Hp → Prop} {Bg : Nat → Prop} {σ : L2.St} {H : Hp} (hwi : ∀ σ H R R', (∀ J H, R J H → R' J H) → wi σ H R → wi σ H R') (hg : ∀ v σ H Q Q', (∀ σ H, Q σ H → Q' σ H) → g v σ H Q → g v σ H Q')
    (ht : ∀ σ H Q Q', (∀ b H, Q b H → Q' b H) → tt σ H Q → tt σ H Q') (hte : ∀ σ H Q Q', (∀ b H, Q b H → Q' b H) → te σ H Q → te σ H Q')
    (hZ : ∀ m y H C, Z m y H C → Z' m y H C) (h : tGen P wi g tt te vs Z Fin Bg σ H) : tGen P wi g tt te vs Z' Fin Bg σ H := by
  refine hwi _ _ _ _ (fun J H1 hq => ⟨hq.1, fun H2 t => ?_⟩) h
  obtain ⟨W, hW, turn⟩ := hq.2 H2 t
  refine ⟨W, hW, fun i m r H w => ?_⟩
  rcases turn i m r H w with z | ⟨go, step⟩
  · exact .inl z
  · refine .inr ⟨go, fun x H' hy => hg _ _ _ _ _ (fun σ2 H2 hq => ⟨hq.1, ht _ _ _ _ (fun b H3 hb => ?_) hq.2⟩) (step x H' hy)⟩
    cases b with
    | false => exact hb
    | true =>
      simp only [if_true] at hb ⊢
      obtain ⟨m', e, hb⟩ := hb
      exact ⟨m', e, hte _ _ _ _ (fun y H4 z => hZ _ _ _ _ z) hb⟩
theorem tDI_mono {it : EM (List D)} : ∀ σ H R R', (∀ J H, R J H → R' J H) → tDI K Tb it σ H R → tDI K Tb it σ H R' := fun σ H R R' h ⟨env, ds, e, F, h1, h2, k⟩ => ⟨env, ds, e, F, h1, h2, fun F' H' J S j => h _ _ (k F' H' J S j)⟩
theorem tDG_mono {vs : List Nat} {g : GM} : ∀ v σ H Q Q', (∀ σ H, Q σ H → Q' σ H) → tDG K Tb vs g v σ H Q → tDG K Tb vs g v σ H Q' := fun v σ H R R' h ⟨d, env, e, F, h1, h2, h3, k⟩ => ⟨d, env, e, F, h1, h2, h3, fun F' H' σ' S o => h _ _ (k F' H' σ' S o)⟩
theorem tDT_mono {c : EM Bool} : ∀ σ H Q Q', (∀ b H, Q b H → Q' b H) → tDT K Tb c σ H Q → tDT K Tb c σ H Q' := fun σ H R R' h ⟨env, ds, e, F, h1, h2, k⟩ => ⟨env, ds, e, F, h1, h2, fun F' H' S => h _ _ (k F' H' S)⟩
theorem tD_mono {c : EM D} : ∀ σ H Q Q', (∀ b H, Q b H → Q' b H) → tD K Tb c σ H Q → tD K Tb c σ H Q' := fun σ H R R' h ⟨env, ds, e, F, h1, h2, k⟩ => ⟨env, ds, e, F, h1, h2, fun F' H' v S d => h _ _ (k F' H' v S d)⟩
section
variable {c P : Addr} {elt tg iter : Expr} {ifs : List Expr} {scope : Scope} {own : List (Str × Nat)} {p pos gpos : Pos} {k : Nat} {it : EM (List D)} {g : GM} {cc : EM Bool} {e : EM D}
theorem d_all (hr : Room k X.A) (hc : X.calm = true) (hN : X.N.Nodup) (hG : Gl X "all") (hm : X.mg "all" = none) (TB : TabB X.base X.mg c P) (hP : P ∈ Tb) (hcode : X.env.code = .ref c) (ok : BlkOk X.N X.env.scope scope own) (gk : GOk scope) (hi : PI X tg iter (tDI X.K Tb it))
    (hg : ∀ s H C code it fp pn, PG (gctx X elt tg iter ifs scope gpos s H C code it fp pn) tg (tDG X.K Tb (own.map (·.2)) g)) (ht : ∀ s H C code it fp pn, PTs (gctx X elt tg iter ifs scope gpos s H C code it fp pn) ifs (tDT X.K Tb cc))
    (he : ∀ s H C code it fp pn, PE (gctx X elt tg iter ifs scope gpos s H C code it fp pn) elt (tD X.K Tb e))
    (hs : ∀ v, genFold iter X.env v = pure v := by intro _; rfl)
    (hst : starEach [.GeneratorExp elt [⟨tg, iter, ifs, 0⟩] scope gpos] X.env = (false, eval (.GeneratorExp elt [⟨tg, iter, ifs, 0⟩] scope gpos) X.env) :: starEach [] X.env := by rfl) :
    PE X (.Call (.Name "all" p) [.GeneratorExp elt [⟨tg, iter, ifs, 0⟩] scope gpos] [] pos) (tD X.K Tb (cA false (own.map (·.2)) it g cc e)) :=
  pe_imp (pe_allG hr hc hN hG hm TB hcode ok gk hi hg ht he (hs := hs) (hst := hst)) fun σ H Q h => tGen_imp tDI_mono tDG_mono tDT_mono tD_mono (fun m y H C ⟨k, e, z⟩ => ⟨k, e, by cases k <;> simpa using z⟩) (gen_reading hP h)
theorem d_any (hr : Room k X.A) (hc : X.calm = true) (hN : X.N.Nodup) (hG : Gl X "any") (hm : X.mg "any" = none) (TB : TabB X.base X.mg c P) (hP : P ∈ Tb) (hcode : X.env.code = .ref c) (ok : BlkOk X.N X.env.scope scope own) (gk : GOk scope) (hi : PI X tg iter (tDI X.K Tb it))
    (hg : ∀ s H C code it fp pn, PG (gctx X elt tg iter ifs scope gpos s H C code it fp pn) tg (tDG X.K Tb (own.map (·.2)) g)) (ht : ∀ s H C code it fp pn, PTs (gctx X elt tg iter ifs scope gpos s H C code it fp pn) ifs (tDT X.K Tb cc))
    (he : ∀ s H C code it fp pn, PE (gctx X elt tg iter ifs scope gpos s H C code it fp pn) elt (tD X.K Tb e))
    (hs : ∀ v, genFold iter X.env v = pure v := by intro _; rfl)
    (hst : starEach [.GeneratorExp elt [⟨tg, iter, ifs, 0⟩] scope gpos] X.env = (false, eval (.GeneratorExp elt [⟨tg, iter, ifs, 0⟩] scope gpos) X.env) :: starEach [] X.env := by rfl) :
    PE X (.Call (.Name "any" p) [.GeneratorExp elt [⟨tg, iter, ifs, 0⟩] scope gpos] [] pos) (tD X.K Tb (cA true (own.map (·.2)) it g cc e)) :=
  pe_imp (pe_anyG hr hc hN hG hm TB hcode ok gk hi hg ht he (hs := hs) (hst := hst)) fun σ H Q h => tGen_imp tDI_mono tDG_mono tDT_mono tD_mono (fun m y H C ⟨k, e, z⟩ => ⟨k, e, by cases k <;> simpa using z⟩) (gen_reading hP h)
end
end
end DL

namespace DL
open PySem PySem.Spec PyProof.Rows L2 GxR
section
variable {X : Cx} {K : PySem.W.Frag} {Tb : List Addr}
/-! ### statements -/
def sNil : SM := fun env Φ => Φ (.nx env)
def sSeq (a b : SM) : SM := fun env Φ => a env fun fl => match fl with
  | .nx e => b e Φ
  | .rt d e => Φ (.rt d e)
  | .bk e => Φ (.bk e)
  | .ct e => Φ (.ct e)
def sIf (c : EM Bool) (a b : SM) : SM := fun env Φ => match c env with
  | some (true, e) => a e Φ
  | some (false, e) => b e Φ
  | none => False
def sRet (f : EM D) : SM := fun env Φ => match f env with
  | some (d, e) => Φ (.rt d e)
  | none => False
def sRetN : SM := fun env Φ => Φ (.rt .none env)
def sSet (g : GM) (f : EM D) : SM := fun env Φ => match f env with
  | some (d, e) => match g d e with
    | some e' => Φ (.nx e')
    | none => False
  | none => False
def sSetO (i : Nat) (f : EM (List D)) : SM := fun env Φ => match f env with
  | some (ds, e) => i < e.length ∧ Φ (.nx (e.set i (.ow none ds)))
  | none => False
def sExp (f : EM D) : SM := fun env Φ => match f env with
  | some (_, e) => Φ (.nx e)
  | none => False
def sBrk : SM := fun env Φ => Φ (.bk env)
def sCont : SM := fun env Φ => Φ (.ct env)
def wFor (g : GM) (b : SM) : List D → Ev → (Fl → Prop) → Prop
  | [], env, Φ => Φ (.nx env)
  | d :: ds, env, Φ => match g d env with
    | some e1 => b e1 fun fl => match fl with
      | .nx e => wFor g b ds e Φ
      | .ct e => wFor g b ds e Φ
      | .bk e => Φ (.nx e)
      | .rt d e => Φ (.rt d e)
    | none => False
def sFor (it : EM (List D)) (g : GM) (b : SM) : SM := fun env Φ => match it env with
  | some (ds, e) => wFor g b ds e Φ
  | none => False
def sWhile (c : EM Bool) (b : SM) : SM := fun env Φ => ∃ W : Nat → Ev → Prop, (∃ m, W m env) ∧ ∀ m e, W m e → match c e with
  | some (true, e1) => b e1 fun fl => match fl with
    | .nx e => ∃ m', m' < m ∧ W m' e
    | .ct e => ∃ m', m' < m ∧ W m' e
    | .bk e => Φ (.nx e)
    | .rt d e => Φ (.rt d e)
  | some (false, e1) => Φ (.nx e1)
  | none => False
section
variable {st : Stmt} {rest : List Stmt} {pos : Pos} {s t : SM} {e : Expr} {f : EM D} {g : GM}
theorem Fl.ends_mono {E E' : Ends} {F H : Hp} {σ : L2.St} {fl : Fl} (h1 : E.nx σ H → E'.nx σ H) (h2 : ∀ v, E.rt v H → E'.rt v H) (h3 : E.bk σ H → E'.bk σ H) (h4 : E.ct σ H → E'.ct σ H) (h : fl.ends K E F H σ) : fl.ends K E' F H σ := by
  cases fl with
  | nx e => exact h1 h
  | rt d e => exact fun v hv => h2 v (h v hv)
  | bk e => exact h3 h
  | ct e => exact h4 h
theorem d_snil : PSs X [] (tDS X.K Tb sNil) := pss_imp pss_nil fun σ H E ⟨env, F, Φ, h, R, k⟩ => k _ h F H σ (Stp.refl R)
theorem d_scons (h1 : PS X st (tDS X.K Tb s)) (h2 : PSs X rest (tDS X.K Tb t)) : PSs X (st :: rest) (tDS X.K Tb (sSeq s t)) := pss_imp (pss_cons h1 h2) fun σ H E ⟨env, F, Φ, h, R, k⟩ => by
  refine ⟨env, F, _, h, R, fun fl hfl F1 H1 σ1 S1 => ?_⟩
  cases fl with
  | nx e => exact ⟨e, F1, Φ, hfl, S1.rs, fun fl2 h2 F2 H2 σ2 S2 => k fl2 h2 F2 H2 σ2 (S1.trans S2)⟩
  | rt d e => exact k _ hfl F1 H1 σ1 S1
  | bk e => exact k _ hfl F1 H1 σ1 S1
  | ct e => exact k _ hfl F1 H1 σ1 S1
theorem d_sone (h1 : PS X st (tDS X.K Tb s)) : PSs X [st] (tDS X.K Tb s) := pss_one h1
theorem d_sif {c : Expr} {a b : List Stmt} {gc : EM Bool} (hc : PT X c (tDT X.K Tb gc)) (ha : PSs X a (tDS X.K Tb s)) (hb : PSs X b (tDS X.K Tb t)) : PS X (.If c a b pos) (tDS X.K Tb (sIf gc s t)) := ps_imp (ps_if hc ha hb) fun σ H E ⟨env, F, Φ, h, R, k⟩ => by
  unfold sIf at h
  split at h
  · rename_i e1 h1
    exact ⟨env, true, e1, F, h1, R, fun F1 H1 S1 => by dsimp only; rw [if_pos rfl]; exact ⟨e1, F1, Φ, h, S1.rs, fun fl2 h2 F2 H2 σ2 S2 => k fl2 h2 F2 H2 σ2 (S1.trans S2)⟩⟩
  · rename_i e1 h1
    exact ⟨env, false, e1, F, h1, R, fun F1 H1 S1 => by dsimp only; rw [if_neg Bool.false_ne_true]; exact ⟨e1, F1, Φ, h, S1.rs, fun fl2 h2 F2 H2 σ2 S2 => k fl2 h2 F2 H2 σ2 (S1.trans S2)⟩⟩
  · exact h.elim
theorem d_sret (he : PE X e (tD X.K Tb f)) : PS X (.Return (some e) pos) (tDS X.K Tb (sRet f)) := ps_imp (ps_ret he) fun σ H E ⟨env, F, Φ, h, R, k⟩ => by
  unfold sRet at h
  split at h
  · rename_i d e1 h1
    exact ⟨env, d, e1, F, h1, R, fun F1 H1 v S1 D1 => k _ h F1 H1 σ S1 v D1⟩
  · exact h.elim
theorem d_sretN : PS X (.Return none pos) (tDS X.K Tb sRetN) := ps_imp ps_retN fun σ H E ⟨env, F, Φ, h, R, k⟩ => k _ h F H σ (Stp.refl R) .non .non
theorem d_spass : PS X (.Pass pos) (tDS X.K Tb sNil) := ps_imp ps_pass fun σ H E ⟨env, F, Φ, h, R, k⟩ => k _ h F H σ (Stp.refl R)
theorem d_sbrk : PS X (.Break pos) (tDS X.K Tb sBrk) := ps_imp ps_break fun σ H E ⟨env, F, Φ, h, R, k⟩ => k _ h F H σ (Stp.refl R)
theorem d_scont : PS X (.Continue pos) (tDS X.K Tb sCont) := ps_imp ps_continue fun σ H E ⟨env, F, Φ, h, R, k⟩ => k _ h F H σ (Stp.refl R)
theorem d_sexp (he : PE X e (tD X.K Tb f)) (hs : swapsWith e none pos.line X.env = pure false := by rfl) : PS X (.Expr e pos) (tDS X.K Tb (sExp f)) := ps_imp (ps_expr he hs) fun σ H E ⟨env, F, Φ, h, R, k⟩ => by
  unfold sExp at h
  split at h
  · rename_i d e1 h1
    exact ⟨env, d, e1, F, h1, R, fun F1 H1 v S1 D1 => k _ h F1 H1 σ S1⟩
  · exact h.elim
theorem set_reading {vs : List Nat} {σ : L2.St} {H : Hp} {E : Ends} (h : tDS K Tb (sSet g f) E σ H) : tAsg (tD K Tb f) (tDG K Tb vs g) E σ H := by
  obtain ⟨env, F, Φ, h, R, k⟩ := h
  unfold sSet at h
  split at h
  · rename_i d e1 h1
    split at h
    · rename_i e2 h2
      exact ⟨env, d, e1, F, h1, R, fun F1 H1 v S1 D1 => ⟨d, e1, e2, F1, h2, S1.rs, D1, fun F2 H2 σ2 S2 _ => k _ h F2 H2 σ2 (S1.trans S2)⟩⟩
    · exact h.elim
  · exact h.elim
/-- a name = e -/
theorem d_sset {i : Nat} {x : Str} {pos' : Pos} (hN : X.N.Nodup) (hi : X.N[i]? = some x) (hx : Loc X.env.scope x) (he : PE X e (tD X.K Tb f)) (hs : swapsWith e (some (.Name x pos')) pos.line X.env = pure false := by rfl) (hf : X.fn x = true ∨ X.env.scope.names.lookup x = some .local := by first | exact .inl rfl | exact .inr rfl | assumption) :
    PS X (.Assign [.Name x pos'] e pos) (tDS X.K Tb (sSet (gN i) f)) := ps_imp (ps_set hN hi hx he hs hf) fun σ H E h => by
  obtain ⟨env, F, Φ, h, R, k⟩ := h
  unfold sSet at h
  split at h
  · rename_i d e1 h1
    split at h
    · rename_i e2 h2
      unfold gN at h2
      split at h2
      · rename_i hl
        cases h2
        refine ⟨env, d, e1, F, h1, R, fun F1 H1 v S1 D1 => k _ h F1 H1 _ (S1.trans (RS.store S1.rs hl D1))⟩
      · cases h2
    · exact h.elim
  · exact h.elim
/-- targets = e -/
theorem d_sasg {vs : List Nat} {tg : Expr} (he : PE X e (tD X.K Tb f)) (hg : PG X tg (tDG X.K Tb vs g)) (hs : swapsWithSole [tg] e pos.line X.env = pure false := by rfl) (hw : swappedStores [tg] e X.env = pure none := by rfl) (h1 : (assignEach [tg] X.env).map (·.2) = [assign tg X.env] := by rfl) : PS X (.Assign [tg] e pos) (tDS X.K Tb (sSet g f)) :=
  ps_imp (ps_asg he hg hs hw h1) fun σ H E h => set_reading h
theorem Stp.own {F H F' H' : Hp} {env env' : Ev} {σ : L2.St} {p : Addr} {vs : List V} {ds : List D} {i : Nat} (S : Stp K Tb F H env σ F' H' env' σ) (hi : i < env'.length) (hp : H p = none) (hF : F' p = none) (hl : H' p = some (.lst vs)) (no : ¬ Owned env' σ p) (hd : DtAll K F' vs ds) :
    Stp K Tb F H env σ F' H' (env'.set i (.ow none ds)) (σ.set i (some (.ref p))) := by
  have hi' : i < σ.length := by rw [← S.rs.len]; exact hi
  have at_ : ∀ j y, (env'.set i (.ow none ds))[j]? = some y → (j = i ∧ y = .ow none ds) ∨ (j ≠ i ∧ env'[j]? = some y) := fun j y q => by
    by_cases hj : j = i
    · subst hj
      rw [List.getElem?_set_self hi] at q
      exact .inl ⟨rfl, (Option.some.inj q).symm⟩
    · rw [List.getElem?_set_ne (Ne.symm hj)] at q
      exact .inr ⟨hj, q⟩
  have old : ∀ (j : Nat) (y : SV) (w : Option V), env'[j]? = some y → σ[j]? = some w → y.own = true → w ≠ some (.ref p) := fun j y w q hw oy z => by
    subst z
    exact no ⟨j, y, q, oy, hw⟩
  refine ⟨S.mono, S.keep, S.dom, ⟨S.rs.wf, by rw [List.length_set, List.length_set]; exact S.rs.len, fun j y q => ?_, fun j k y z q1 q2 o1 o2 q3 => ?_⟩, fun b q => ?_⟩
  · rcases at_ j y q with ⟨rfl, rfl⟩ | ⟨hj, q⟩
    · exact ⟨_, List.getElem?_set_self hi', ⟨(fun q z => nomatch z), hF⟩, vs, hl, hd⟩
    · obtain ⟨w, h1, h2⟩ := S.rs.slot j y q
      exact ⟨w, by rw [List.getElem?_set_ne (Ne.symm hj)]; exact h1, h2⟩
  · rcases at_ j y q1 with ⟨ej, _⟩ | ⟨hj, q1'⟩
    · rcases at_ k z q2 with ⟨ek, _⟩ | ⟨hk, q2'⟩
      · rw [ej, ek]
      · rw [ej, List.getElem?_set_self hi', List.getElem?_set_ne (Ne.symm hk)] at q3
        exact absurd rfl (old k z _ q2' q3.symm o2)
    · rcases at_ k z q2 with ⟨ek, _⟩ | ⟨hk, q2'⟩
      · rw [ek, List.getElem?_set_self hi', List.getElem?_set_ne (Ne.symm hj)] at q3
        exact absurd rfl (old j y _ q1' q3 o1)
      · rw [List.getElem?_set_ne (Ne.symm hj), List.getElem?_set_ne (Ne.symm hk)] at q3
        exact S.rs.sep _ _ y z q1' q2' o1 o2 q3
  · obtain ⟨j, y, q1, q2, q3⟩ := q
    rcases at_ j y q1 with ⟨ej, _⟩ | ⟨hj, q1'⟩
    · rw [ej, List.getElem?_set_self hi'] at q3
      cases q3
      exact .inr hp
    · rw [List.getElem?_set_ne (Ne.symm hj)] at q3
      exact S.sub b ⟨j, y, q1', q2, q3⟩
/-- a name = a new list, its own -/
theorem setO_reading {i : Nat} {fs : EM (List D)} {σ : L2.St} {H : Hp} {E : Ends} (h : tDS K Tb (sSetO i fs) E σ H) : tAsg (tNew K Tb fs) (gName i) E σ H := by
  obtain ⟨env, F, Φ, h, R, k⟩ := h
  unfold sSetO at h
  split at h
  · rename_i ds e1 h1
    refine ⟨env, ds, e1, F, h1, R, fun F1 H1 p vs S1 h0 hF hl no D1 => ?_⟩
    exact k _ h.2 F1 H1 _ (Stp.own S1 h.1 h0 hF hl no D1)
  · exact h.elim
theorem d_ssetO {i : Nat} {x : Str} {pos' : Pos} {fs : EM (List D)} (hN : X.N.Nodup) (hi : X.N[i]? = some x) (hx : Loc X.env.scope x) (he : PE X e (tNew X.K Tb fs)) (hs : swapsWith e (some (.Name x pos')) pos.line X.env = pure false := by rfl) (hf : X.fn x = true ∨ X.env.scope.names.lookup x = some .local := by first | exact .inl rfl | exact .inr rfl | assumption) :
    PS X (.Assign [.Name x pos'] e pos) (tDS X.K Tb (sSetO i fs)) := ps_imp (ps_set hN hi hx he hs hf) fun σ H E h => setO_reading h
/-- x = [..], on one line, x a local: the comprehension's own road -/
theorem d_ssetLc {i : Nat} {y : Str} {py : Pos} {elt tg iter : Expr} {ifs : List Expr} {scope : Scope} {own : List (Str × Nat)} {pos spos : Pos} {it : EM (List D)} {gg : GM} {c : EM Bool} {ee : EM D} (hc : X.calm = true) (hN : X.N.Nodup) (hy : X.N[i]? = some y) (hyl : X.env.scope.names.lookup y = some .local)
    (hsw : swapsWith (.ListComp elt [⟨tg, iter, ifs, 0⟩] scope pos) (some (.Name y py)) spos.line X.env = pure true) (ok : BlkOk X.N X.env.scope scope own) (hi : PI X tg iter (tDI X.K Tb it))
    (hg : ∀ (s : Shared) (H : Hp) (C : Addr) (cl : List (Str × Addr)) (fp : List Addr), PG (X.blk s H scope (compEnvC scope cl C X.env) fp) tg (tDG X.K Tb (own.map (·.2)) gg)) (ht : ∀ (s : Shared) (H : Hp) (C : Addr) (cl : List (Str × Addr)) (fp : List Addr), PTs (X.blk s H scope (compEnvC scope cl C X.env) fp) ifs (tDT X.K Tb c))
    (he : ∀ (s : Shared) (H : Hp) (C : Addr) (cl : List (Str × Addr)) (fp : List Addr), PE (X.blk s H scope (compEnvC scope cl C X.env) fp) elt (tD X.K Tb ee)) (hs : ∀ x, foldedSetIterable iter X.env x = pure x := by intro _; rfl) :
    PS X (.Assign [.Name y py] (.ListComp elt [⟨tg, iter, ifs, 0⟩] scope pos) spos) (tDS X.K Tb (sSetO i (cC (own.map (·.2)) it gg c ee))) :=
  ps_imp (ps_setLc hc hN hy hyl hsw hi ok hg ht he hs) fun σ H E h => by
    have h2 := setO_reading h
    exact lc_reading (Q := fun x H1 => gName i x σ H1 E.nx) h2
/-- .. standing still -/
theorem d_ssetLcF {i : Nat} {y : Str} {py : Pos} {elt tg iter : Expr} {ifs : List Expr} {scope : Scope} {own : List (Str × Nat)} {pos spos : Pos} {it : EM (List D)} {gg : GM} {c : EM Bool} {ee : EM D} (hc : X.calm = true) (hN : X.N.Nodup) (hy : X.N[i]? = some y) (hyl : X.env.scope.names.lookup y = some .local)
    (hsw : swapsWith (.ListComp elt [⟨tg, iter, ifs, 0⟩] scope pos) (some (.Name y py)) spos.line X.env = pure true) (ok : BlkOk X.N X.env.scope scope own) (hi : PI X tg iter (tDI X.K Tb it))
    (hg : ∀ (s : Shared) (H : Hp) (C : Addr) (cl : List (Str × Addr)) (fp : List Addr), PG (X.blk s H scope (compEnvC scope cl C X.env) fp) tg (tDG X.K Tb (own.map (·.2)) gg)) (ht : ∀ (s : Shared) (H : Hp) (C : Addr) (cl : List (Str × Addr)) (fp : List Addr), PTs (X.blk s H scope (compEnvC scope cl C X.env) fp) ifs (tDT X.K Tb c))
    (he : ∀ (s : Shared) (H : Hp) (C : Addr) (cl : List (Str × Addr)) (fp : List Addr), PE (X.blk s H scope (compEnvC scope cl C X.env) fp) elt (tD X.K Tb ee)) (hs : ∀ x, foldedSetIterable iter X.env x = pure x := by intro _; rfl) :
    PS X (.Assign [.Name y py] (.ListComp elt [⟨tg, iter, ifs, 0⟩] scope pos) spos) (tDS X.K Tb (sSet (gN i) (eOfL (cC (own.map (·.2)) it gg c ee)))) :=
  ps_imp (ps_setLc hc hN hy hyl hsw hi ok hg ht he hs) fun σ H E ⟨env, F, Φ, h, R, k⟩ => by
    unfold sSet at h
    split at h
    · rename_i d e1 h1
      split at h
      · rename_i e2 h2
        unfold gN at h2
        split at h2
        · rename_i hl
          cases h2
          unfold eOfL at h1
          split at h1
          · rename_i ds e3 h3
            cases h1
            refine lc_reading (Q := fun x H1 => gName i x σ H1 E.nx) ⟨env, ds, _, F, h3, R, fun F1 H1 p vs S1 h0 hF hl' no D1 => ?_⟩
            have S2 := Stp.frz S1 h0 hF hl' no
            exact k _ h _ H1 _ (S2.trans (RS.store S2.rs hl (.lst upd_same (DtAll.mono (Mono.upd hF) D1))))
          · cases h1
        · cases h2
      · exact h.elim
    · exact h.elim
theorem d_sfor {vs : List Nat} {tg iter : Expr} {body : List Stmt} {it : EM (List D)} {b : SM} (hp : PassesOwn (model X.prog X.w) X.A X.env X.xe) (hc : X.calm = true) (hi : PI X tg iter (tDI X.K Tb it)) (hg : PG X tg (tDG X.K Tb vs g)) (hb : PSs X body (tDS X.K Tb b))
    (hs : ∀ x, foldedSetIterable iter X.env x = pure x := by intro _; rfl) :
    PS X (.For tg iter body [] pos) (tDS X.K Tb (sFor it g b)) := ps_imp (ps_for hp hc hi hg hb (hs := hs)) fun σ H E ⟨env, F, Φ, h, R, k⟩ => by
  unfold sFor at h
  split at h
  · rename_i ds e1 h1
    refine ⟨env, ds, e1, F, h1, R, fun F1 H1 J S1 jok => ?_⟩
    refine ⟨fun i m σ' H' => m = ds.length - i ∧ ∃ F' env', Stp X.K Tb F1 H1 e1 σ F' H' env' σ' ∧ wFor g b (ds.drop i) env' Φ, ⟨_, rfl, F1, e1, Stp.refl S1.rs, h⟩, ?_⟩
    rintro i m σ' H' ⟨rfl, F', env', S, w⟩
    by_cases hi : i < ds.length
    · obtain ⟨d, hd1, hd2⟩ := drop_some hi
      rw [hd2] at w
      obtain ⟨go, yl⟩ := (jok F' H' env' _ S.rs S.mono i).1 d hd1
      refine .inr ⟨go, fun σ' H' => ∃ F' env', Stp X.K Tb F1 H1 e1 σ F' H' env' σ' ∧ wFor g b (ds.drop (i + 1)) env' Φ, fun σ'' H'' hN => ⟨ds.length - (i + 1), by omega, rfl, hN⟩, fun x H2 hy => ?_⟩
      obtain ⟨F2, S2, dx⟩ := yl x H2 hy
      unfold wFor at w
      split at w
      · rename_i w1 g1
        refine ⟨d, env', w1, F2, g1, S2.rs, dx, fun F3 H3 σ3 S3 _ => ?_⟩
        refine ⟨w1, F3, _, w, S3.rs, fun fl hfl F4 H4 σ4 S4 => ?_⟩
        have ST := S.trans ((S2.trans S3).trans S4)
        cases fl with
        | nx e => exact ⟨F4, e, ST, hfl⟩
        | ct e => exact ⟨F4, e, ST, hfl⟩
        | bk e => exact k _ hfl F4 H4 σ4 (S1.trans ST)
        | rt d e => exact k _ hfl F4 H4 σ4 (S1.trans ST)
      · exact w.elim
    · have hdr : ds.drop i = [] := List.drop_of_length_le (by omega)
      rw [hdr] at w
      exact .inl ⟨(jok F' H' _ _ S.rs S.mono i).2 (by omega), k _ w F' H' σ' (S1.trans S)⟩
  · exact h.elim
theorem d_swhile {c : Expr} {body : List Stmt} {gc : EM Bool} {b : SM} (hp : PassesOwn (model X.prog X.w) X.A X.env X.xe) (hc : PT X c (tDT X.K Tb gc)) (hb : PSs X body (tDS X.K Tb b)) : PS X (.While c body [] pos) (tDS X.K Tb (sWhile gc b)) := ps_imp (ps_while hp hc hb) fun σ H E ⟨env, F, Φ, h, R, k⟩ => by
  obtain ⟨W, ⟨m0, w0⟩, turn⟩ := h
  refine ⟨fun m σ' H' => ∃ F' env', Stp X.K Tb F H env σ F' H' env' σ' ∧ W m env', ⟨m0, F, env, Stp.refl R, w0⟩, ?_⟩
  rintro m σ' H' ⟨F', env', S, w⟩
  have t := turn m env' w
  split at t
  · rename_i e1 h1
    refine ⟨env', true, e1, F', h1, S.rs, fun F1 H1 S1 => ?_⟩
    dsimp only
    rw [if_pos rfl]
    refine ⟨fun σ'' H'' => ∃ m', m' < m ∧ ∃ F' env', Stp X.K Tb F H env σ F' H'' env' σ'' ∧ W m' env', fun σ'' H'' hN => hN, ?_⟩
    refine ⟨e1, F1, _, t, S1.rs, fun fl hfl F2 H2 σ2 S2 => ?_⟩
    have ST := S.trans (S1.trans S2)
    cases fl with
    | nx e => obtain ⟨m', hm, w'⟩ := hfl; exact ⟨m', hm, F2, e, ST, w'⟩
    | ct e => obtain ⟨m', hm, w'⟩ := hfl; exact ⟨m', hm, F2, e, ST, w'⟩
    | bk e => exact k _ hfl F2 H2 σ2 ST
    | rt d e => exact k _ hfl F2 H2 σ2 ST
  · rename_i e1 h1
    refine ⟨env', false, e1, F', h1, S.rs, fun F1 H1 S1 => ?_⟩
    dsimp only
    rw [if_neg Bool.false_ne_true]
    exact k _ t F1 H1 _ (S.trans S1)
  · exact t.elim
end

/-! ### own lists: append, pop -/
def sApp (i : Nat) (f : EM D) : SM := fun env Φ => match env[i]? with
  | some (.ow _ _) => match f env with
    | some (d, e1) => match e1[i]? with
      | some (.ow t ds) => ds.length < sizeLine ∧ Φ (.nx (e1.set i (.ow t (ds ++ [d]))))
      | _ => False
    | none => False
  | _ => False
theorem slot_own {F H : Hp} {p : Addr} {t : Option Addr} {zs : List V} {es : List D} (ht : ∀ q, t = some q → q = p) (hF : F p = none) (hd : DtAll K F zs es) : SlotOk K F (upd H p (.lst zs)) (.ow t es) (some (.ref p)) := ⟨⟨ht, hF⟩, zs, upd_same, hd⟩
theorem d_app {i : Nat} {o e : Expr} {f : EM D} {apos cpos pos : Pos} (ho : PE X o (tVar i)) (he : PE X e (tD X.K Tb f)) (hp : PE X (.Call (.Attribute o "append" apos) [e] [] cpos) (tBM X.K "list" rAppend (tVar i) (tCons (tD X.K Tb f) tNil)))
    (hs : swapsWith (.Call (.Attribute o "append" apos) [e] [] cpos) none pos.line X.env = pure false := by rfl) : PS X (.Expr (.Call (.Attribute o "append" apos) [e] [] cpos) pos) (tDS X.K Tb (sApp i f)) :=
  ps_imp (ps_expr hp hs) fun σ H E ⟨env, F, Φ, h, R, k⟩ => by
    unfold sApp at h
    split at h
    · rename_i tg0 ds0 h0
      split at h
      · rename_i d e1 h1
        split at h
        · rename_i tg ds h2
          obtain ⟨p, vs0, hs0, f0, l0, _⟩ := R.ow h0
          refine ⟨.ref p, hs0, .inl ⟨rfl, vs0, .inl (.inl l0)⟩, ⟨env, d, e1, F, h1, R, fun F1 H1 v S1 D1 => ?_⟩⟩
          obtain ⟨p', vs, hs1, f1, l1, d1⟩ := S1.rs.ow h2
          rw [hs0] at hs1
          cases hs1
          refine ⟨p, vs, v, rfl, rfl, l1, by rw [DtAll.length d1]; exact h.1, ?_⟩
          have SP := RS.put S1.rs (o := .lst (vs ++ [v])) (x' := .ow tg (ds ++ [d])) h2 rfl hs0 rfl (slot_own (S1.rs.owT h2 hs0) f1 (DtAll.append d1 (.cons D1 .nil)))
          exact k _ h.2 F1 _ σ (S1.trans SP)
        · exact h.elim
      · exact h.elim
    · exact h.elim
def ePop (i : Nat) : EM D := fun env => match env[i]? with
  | some (.ow t ds) => match ds.getLast? with
    | some d => some (d, env.set i (.ow t ds.dropLast))
    | none => none
  | _ => none
theorem d_pop {i : Nat} {o : Expr} {apos cpos : Pos} (hp : PE X (.Call (.Attribute o "pop" apos) [] [] cpos) (tBM0 X.K "list" rPop (tVar i))) : PE X (.Call (.Attribute o "pop" apos) [] [] cpos) (tD X.K Tb (ePop i)) :=
  pe_imp hp fun σ H Q ⟨env, d, env', F, hf, R, k⟩ => by
    unfold ePop at hf
    split at hf
    · rename_i tg ds h0
      split at hf
      · rename_i d' hl
        cases hf
        obtain ⟨p, vs, hs0, f0, l0, d0⟩ := R.ow h0
        have hne : ds[ds.length - 1]? = some d := by rw [← List.getLast?_eq_getElem?]; exact hl
        obtain ⟨v, g1, g2⟩ := DtAll.get d0 hne
        refine ⟨.ref p, hs0, .inl ⟨rfl, vs, .inl (.inl l0)⟩, p, vs, v, rfl, rfl, l0, by rw [DtAll.length d0]; exact g1, ?_⟩
        have SP := RS.put R (o := .lst vs.dropLast) (x' := .ow tg ds.dropLast) h0 rfl hs0 rfl (slot_own (R.owT h0 hs0) f0 (DtAll.dropLast d0))
        exact k F _ v SP g2
      · cases hf
    · cases hf
/-- xs[j] = e, an own list -/
def sPut (i : Nat) (fj f : EM D) : SM := fun env Φ => match f env with
  | some (d, e1) => match e1[i]? with
    | some (.ow _ _) => match fj e1 with
      | some (.int j, e2) => match e2[i]? with
        | some (.ow t ds) => match ixN ds.length j with
          | some n => Φ (.nx (e2.set i (.ow t (ds.set n d))))
          | none => False
        | _ => False
      | _ => False
    | _ => False
  | none => False
theorem d_sput {i : Nat} {o ix e : Expr} {p2 pos : Pos} {fj f : EM D} (ho : PE X o (tVar i)) (hj : PE X ix (tD X.K Tb fj)) (he : PE X e (tD X.K Tb f)) (hpg : PG X (.Subscript o ix p2) (gSub (tVar i) (tD X.K Tb fj) rSetL))
    (hs : swapsWithSole [.Subscript o ix p2] e pos.line X.env = pure false := by rfl) (hw : swappedStores [.Subscript o ix p2] e X.env = pure none := by rfl) : PS X (.Assign [.Subscript o ix p2] e pos) (tDS X.K Tb (sPut i fj f)) :=
  ps_imp (ps_asg he hpg hs hw) fun σ H E ⟨env, F, Φ, h, R, k⟩ => by
    unfold sPut at h
    split at h
    · rename_i d e1 h1
      split at h
      · rename_i tg0 ds0 h0
        split at h
        · rename_i j e2 h2
          split at h
          · rename_i tg ds h3
            split at h
            · rename_i n h4
              refine ⟨env, d, e1, F, h1, R, fun F1 H1 v S1 D1 => ?_⟩
              obtain ⟨p, vs0, hs0, f0, l0, _⟩ := S1.rs.ow h0
              refine ⟨.ref p, hs0, ⟨e1, _, e2, F1, h2, S1.rs, fun F2 H2 u S2 D2 => ?_⟩⟩
              obtain ⟨p', vs, hs1, f1, l1, d1⟩ := S2.rs.ow h3
              rw [hs0] at hs1
              cases hs1
              refine ⟨p, vs, j, n, rfl, Dt.int_inv D2, l1, by rw [DtAll.length d1]; exact h4, ?_⟩
              have SP := RS.put S2.rs (o := .lst (vs.set n v)) (x' := .ow tg (ds.set n d)) h3 rfl hs0 rfl (slot_own (S2.rs.owT h3 hs0) f1 (DtAll.set n (Dt.mono S2.mono D1) d1))
              exact k _ h F2 _ σ ((S1.trans S2).trans SP)
            · exact h.elim
          · exact h.elim
        · exact h.elim
      · exact h.elim
    · exact h.elim

/-! ### calls of built-ins -/
def rDC (K : PySem.W.Frag) (g : List D → Option D) : List V → Hp → VK → Prop := fun vs H Q => ∃ F ds z, Mono F H ∧ DtAll K F vs ds ∧ g ds = some z ∧ ∀ F' H' v, Lay F H F' H' → Dt K F' v z → Q v H'
def eCall (g : List D → Option D) (f : EM (List D)) : EM D := fun env => match f env with
  | some (ds, e1) => match g ds with
    | some z => some (z, e1)
    | none => none
  | none => none
theorem call_reading {r : List V → Hp → VK → Prop} {g : List D → Option D} {f : EM (List D)} (hr : ∀ vs H Q, rDC K g vs H Q → r vs H Q) {σ : L2.St} {H : Hp} {Q : VK} (h : tD K Tb (eCall g f) σ H Q) : tCB r (tDA K Tb f) σ H Q := by
  obtain ⟨env, d, env', F, hf, R, k⟩ := h
  unfold eCall at hf
  split at hf
  · rename_i ds e1 h1
    split at hf
    · rename_i z h2
      cases hf
      exact ⟨env, ds, _, F, h1, R, fun F1 H1 vs S1 D1 => hr _ _ _ ⟨F1, ds, d, S1.rs.wf.sub, D1, h2, fun F2 H2 v l dv => k F2 H2 v (S1.trans (RS.lay S1.rs l)) dv⟩⟩
    · cases hf
  · cases hf
theorem d_blt {id : String} {x : Str} {p pos : Pos} {e : Expr} {es : List Expr} {g : List D → Option D} {f : EM (List D)} (hc : CallR X (.builtin id) (rDC X.K g)) (hg : Gl X x) (hm : X.mg x = none) (hv : bootBuiltins x = some (.builtin id)) (ha : PA X (e :: es) (tDA X.K Tb f)) (hn : x ≠ "__name__" := by decide) (hdb : (x == ("__debug__" : Str)) = false := by decide)
    (he : starEach (e :: es) X.env = (false, eval e X.env) :: starEach es X.env := by rfl) (hpl : (backTo pos (starEach es X.env)).any (·.1) = false := by rfl) : PE X (.Call (.Name x p) (e :: es) [] pos) (tD X.K Tb (eCall g f)) :=
  pe_imp (pe_callB hc hg hm hv ha hn hdb he hpl) fun σ H Q h => call_reading (fun _ _ _ h => h) h
theorem d_bty {T : String} {x : Str} {p pos : Pos} {e : Expr} {es : List Expr} {g : List D → Option D} {f : EM (List D)} (hc : CallR X (.type T) (rDC X.K g)) (hg : Gl X x) (hm : X.mg x = none) (hv : bootBuiltins x = some (.type T)) (ha : PA X (e :: es) (tDA X.K Tb f)) (hn : x ≠ "__name__" := by decide) (hdb : (x == ("__debug__" : Str)) = false := by decide)
    (he : starEach (e :: es) X.env = (false, eval e X.env) :: starEach es X.env := by rfl) (hpl : (backTo pos (starEach es X.env)).any (·.1) = false := by rfl) : PE X (.Call (.Name x p) (e :: es) [] pos) (tD X.K Tb (eCall g f)) :=
  pe_imp (pe_callTy hc hg hm hv ha hn hdb he hpl) fun σ H Q h => call_reading (fun _ _ _ h => h) h
theorem callR_imp {f : Value} {r r' : List V → Hp → VK → Prop} (h : CallR X f r) (i : ∀ vs H Q, r' vs H Q → r vs H Q) : CallR X f r' := fun pins s σ H xs us Q I rv q => h pins s σ H xs us Q I rv (i _ _ _ q)
def dLen : List D → Option D
  | [.list xs] => some (.int xs.length)
  | [.tuple xs] => some (.int xs.length)
  | [.str z] => if z.length ≤ sizeLine then some (.int z.length) else none
  | _ => none
theorem c_len : CallR X (.builtin "len") (rDC X.K dLen) := callR_imp (call_len_seq.or call_len_str) fun vs H Q ⟨F, ds, z, m, hd, hg, k⟩ => by
  unfold dLen at hg
  split at hg
  · cases hg
    obtain ⟨v, rfl, hv⟩ := DtAll.one_inv hd
    obtain ⟨a, xs, rfl, g1, g2⟩ := Dt.list_inv hv
    exact .inl ⟨a, xs, rfl, .inl (SqL.of (m _ _ g1)), k F H _ (.inl ⟨rfl, rfl⟩) (by rw [DtAll.length g2]; exact .int _)⟩
  · cases hg
    obtain ⟨v, rfl, hv⟩ := DtAll.one_inv hd
    obtain ⟨a, xs, rfl, g1, g2⟩ := Dt.tup_inv hv
    exact .inl ⟨a, xs, rfl, .inr (SqT.mono m g1), k F H _ (.inl ⟨rfl, rfl⟩) (by rw [DtAll.length g2]; exact .int _)⟩
  · split at hg
    · rename_i hz
      cases hg
      obtain ⟨v, rfl, hv⟩ := DtAll.one_inv hd
      exact .inr ⟨_, by rw [Dt.str_inv hv], hz, k F H _ (.inl ⟨rfl, rfl⟩) (.int _)⟩
    · cases hg
  · cases hg
def dAbs : List D → Option D
  | [.int i] => some (.int (if i < 0 then -i else i))
  | _ => none
theorem c_abs : CallR X (.builtin "abs") (rDC X.K dAbs) := callR_imp call_abs fun vs H Q ⟨F, ds, z, m, hd, hg, k⟩ => by
  unfold dAbs at hg
  split at hg
  · cases hg
    obtain ⟨v, rfl, hv⟩ := DtAll.one_inv hd
    exact ⟨_, by rw [Dt.int_inv hv], k F H _ (.inl ⟨rfl, rfl⟩) (.int _)⟩
  · cases hg
def dInt : List D → Option D
  | [.int i] => some (.int i)
  | [.bool b] => some (.int (if b then 1 else 0))
  | _ => none
theorem c_int : CallR X (.type "int") (rDC X.K dInt) := callR_imp call_int1 fun vs H Q ⟨F, ds, z, m, hd, hg, k⟩ => by
  unfold dInt at hg
  split at hg
  · cases hg
    obtain ⟨v, rfl, hv⟩ := DtAll.one_inv hd
    exact .inl ⟨_, by rw [Dt.int_inv hv], k F H _ (.inl ⟨rfl, rfl⟩) (.int _)⟩
  · cases hg
    obtain ⟨v, rfl, hv⟩ := DtAll.one_inv hd
    exact .inr ⟨_, by rw [Dt.bl_inv hv], k F H _ (.inl ⟨rfl, rfl⟩) (.int _)⟩
  · cases hg
def dTuple : List D → Option D
  | [.list xs] => some (.tuple xs)
  | [.tuple xs] => some (.tuple xs)
  | _ => none
theorem c_tuple : CallR X (.type "tuple") (rDC X.K dTuple) := callR_imp call_tuple_of fun vs H Q ⟨F, ds, z, m, hd, hg, k⟩ => by
  unfold dTuple at hg
  split at hg
  · cases hg
    obtain ⟨v, rfl, hv⟩ := DtAll.one_inv hd
    obtain ⟨a, xs, rfl, g1, g2⟩ := Dt.list_inv hv
    refine ⟨a, xs, rfl, .inl ⟨SqL.of (m _ _ g1), fun l hl => k _ _ _ (.inr ⟨l, _, hl, nt_tup, rfl, rfl⟩) ?_⟩⟩
    exact .tup (SqT.of upd_same) (DtAll.mono (Mono.upd (m.fnone hl)) g2)
  · cases hg
    obtain ⟨v, rfl, hv⟩ := DtAll.one_inv hd
    obtain ⟨a, xs, rfl, g1, g2⟩ := Dt.tup_inv hv
    exact ⟨a, xs, rfl, .inr ⟨SqT.mono m g1, k F H _ (.inl ⟨rfl, rfl⟩) (.tup g1 g2)⟩⟩
  · cases hg
def intsOf : List D → Option (List Int)
  | [] => some []
  | .int i :: r => match intsOf r with
    | some is => some (i :: is)
    | none => none
  | _ => none
theorem ints_vals {F : Hp} : ∀ {vs : List V} {ds : List D} {is : List Int}, DtAll K F vs ds → intsOf ds = some is → vs = is.map V.int
  | _, _, _, .nil, h => by cases h; rfl
  | _, _, _, .cons (d := d) a t, h => by
    cases d <;> simp only [intsOf] at h <;> try cases h
    split at h
    · rename_i is h1
      cases h
      rw [Dt.int_inv a, ints_vals t h1]
      rfl
    · cases h
def dSum : List D → Option D
  | [.list xs] => match intsOf xs with
    | some is => some (.int is.sum)
    | none => none
  | _ => none
theorem c_sum (hc : X.calm = true) : CallR X (.builtin "sum") (rDC X.K dSum) := callR_imp (cr_sum hc) fun vs H Q ⟨F, ds, z, m, hd, hg, k⟩ => by
  unfold dSum at hg
  split at hg
  · split at hg
    · rename_i is hi
      cases hg
      obtain ⟨v, rfl, hv⟩ := DtAll.one_inv hd
      obtain ⟨a, xs, rfl, g1, g2⟩ := Dt.list_inv hv
      have e := ints_vals g2 hi
      subst e
      exact ⟨a, is, rfl, SqL.of (m _ _ g1), k F H _ (.inl ⟨rfl, rfl⟩) (.int _)⟩
    · cases hg
  · cases hg
/-- isinstance(e, T) -/
def tyOf : D → String
  | .none => "NoneType"
  | .bool _ => "bool"
  | .int _ => "int"
  | .str _ => "str"
  | .list _ => "list"
  | .tuple _ => "tuple"
  | .dict _ => "dict"
def isTy (T : String) : D → Bool
  | .bool _ => T == "bool" || T == "int"
  | d => tyOf d == T
def dIsT (T : String) (d : D) : Option D := match d with
  | .dict _ => none
  | d => some (.bool (isTy T d))
theorem Dt.tyX {F H : Hp} {v : V} {d : D} (m : Mono F H) (h : Dt K F v d) : TyX K H v (.type (tyOf d)) := by
  cases h with
  | non => exact .base .non
  | bl b => exact .base (.bl b)
  | int i => exact .base (.int i)
  | str x => exact .base (.str x)
  | lst a b => exact .base (.lst (m _ _ a))
  | tup a b =>
    rcases a with (a | ⟨o, a⟩) | ⟨o, its, n, a, c, _⟩
    · exact .base (.tup (m _ _ a))
    · exact .fTuple (m _ _ a)
    · exact .kTuple a c
def TyName (T : String) : Prop := kitB "NoneType" T = some (isTy T .none) ∧ kitB "bool" T = some (isTy T (.bool true)) ∧ kitB "int" T = some (isTy T (.int 0)) ∧ kitB "str" T = some (isTy T (.str "")) ∧ kitB "list" T = some (isTy T (.list [])) ∧ kitB "tuple" T = some (isTy T (.tuple []))
theorem d_isi {e : Expr} {T : String} {x : Str} {p p2 pos : Pos} {f : EM D} (hT : TyName T) (hg : Gl X "isinstance") (hm : X.mg "isinstance" = none) (hg2 : Gl X x) (hm2 : X.mg x = none) (hv : bootBuiltins x = some (.type T)) (he : PE X e (tD X.K Tb f))
    (hn : x ≠ "__name__" := by decide) (hdb : (x == ("__debug__" : Str)) = false := by decide)
    (hs : starEach [e, .Name x p2] X.env = (false, eval e X.env) :: starEach [.Name x p2] X.env := by rfl) (hpl : (backTo pos (starEach [.Name x p2] X.env)).any (·.1) = false := by rfl) :
    PE X (.Call (.Name "isinstance" p) [e, .Name x p2] [] pos) (tD X.K Tb (eU (dIsT T) f)) :=
  pe_imp (pe_callB call_isi hg hm (by decide +kernel) (pa_cons he (pa_cons (pe_bltn (v := .ty T) hg2 hm2 hv rfl hn hdb) pa_nil) hs) (he := hs) (hpl := hpl)) fun σ H Q ⟨env, d, env', F, hf, R, k⟩ => by
    unfold eU at hf
    split at hf
    · rename_i y e1 h1
      split at hf
      · rename_i z h2
        cases hf
        refine ⟨env, y, _, F, h1, R, fun F1 H1 v S1 D1 => ?_⟩
        show rIsi X.K [v, .ty T] H1 Q
        have t := Dt.tyX S1.rs.wf.sub D1
        obtain ⟨t1, t2, t3, t4, t5, t6⟩ := hT
        have key : kitB (tyOf y) T = some (isTy T y) ∧ d = .bool (isTy T y) := by
          cases y <;> simp only [dIsT] at h2 <;> cases h2
          · exact ⟨t1, rfl⟩
          · exact ⟨t2, rfl⟩
          · exact ⟨t3, rfl⟩
          · exact ⟨t4, rfl⟩
          · exact ⟨t5, rfl⟩
          · exact ⟨t6, rfl⟩
        obtain ⟨key1, rfl⟩ := key
        exact ⟨v, _, _, _, _, rfl, .ty T, t, kit_ty key1, k F1 H1 _ S1 (.bl _)⟩
      · cases hf
    · cases hf
theorem ty_int : TyName "int" := by refine ⟨?_, ?_, ?_, ?_, ?_, ?_⟩ <;> decide +kernel
theorem ty_bool : TyName "bool" := by refine ⟨?_, ?_, ?_, ?_, ?_, ?_⟩ <;> decide +kernel
theorem ty_str : TyName "str" := by refine ⟨?_, ?_, ?_, ?_, ?_, ?_⟩ <;> decide +kernel
theorem ty_list : TyName "list" := by refine ⟨?_, ?_, ?_, ?_, ?_, ?_⟩ <;> decide +kernel
theorem ty_tuple : TyName "tuple" := by refine ⟨?_, ?_, ?_, ?_, ?_, ?_⟩ <;> decide +kernel
end
end DL

namespace DL
open PySem PySem.Spec PyProof.Rows L2 GxR
/-! ### defs over data -/
/-- behind a call that changes nothing but the objects at O -/
structure FStp (Tb : List Addr) (O : Addr → Prop) (F H F' H' : Hp) : Prop where
  mono : Mono F F'
  keep : ∀ b o, H b = some o → NT o → ¬ O b → H' b = some o ∧ (F b = none → F' b = none)
  dom : ∀ b, H' b = none → H b = none
  wf : Wf Tb F' H'
/-- a def whose arguments and value are data -/
def spD (K : PySem.W.Frag) (Tb : List Addr) (n : Nat) (mf : List D → Option D) : Sp := fun vs H Q _ => ∃ F ds d, vs.length = n ∧ Wf Tb F H ∧ DtAll K F vs ds ∧ mf ds = some d ∧
  ∀ F' H' v, FStp Tb (fun _ => False) F H F' H' → Dt K F' v d → Q v H'
/-- .. whose first argument is an own list, that it changes -/
def spO (K : PySem.W.Frag) (Tb : List Addr) (n : Nat) (mf : List D → List D → Option (D × List D)) : Sp := fun vs H Q _ => ∃ F p us ws L ds d L', vs = .ref p :: us ∧ us.length = n ∧ Wf Tb F H ∧ F p = none ∧ H p = some (.lst ws) ∧ DtAll K F ws L ∧ DtAll K F us ds ∧ mf L ds = some (d, L') ∧
  ∀ F' H' v ws', FStp Tb (fun b => b = p) F H F' H' → F' p = none → H' p = some (.lst ws') → DtAll K F' ws' L' → Dt K F' v d → Q v H'
section
variable {X : Cx} {K : PySem.W.Frag} {Tb : List Addr}
theorem RS.fstp {F H F' H' : Hp} {env : Ev} {σ : L2.St} (R : RS K Tb F H env σ) (s : FStp Tb (fun _ => False) F H F' H') : Stp K Tb F H env σ F' H' env σ := by
  refine ⟨s.mono, fun b o e nt _ => s.keep b o e nt id, s.dom, ⟨s.wf, R.len, fun j y q => ?_, R.sep⟩, fun b h => .inl h⟩
  obtain ⟨w, h1, h2⟩ := R.slot j y q
  refine ⟨w, h1, ?_⟩
  match y, w, h2 with
  | .un, _, _ => trivial
  | .fz d, some v, h2 => exact Dt.mono s.mono h2
  | .sq ds, some (.ref q), ⟨us, b, c⟩ => exact ⟨us, SqL.mono s.mono b, DtAll.mono s.mono c⟩
  | .ow tg ds, some (.ref r), ⟨⟨tq, a⟩, us, b, c⟩ =>
    obtain ⟨k1, k2⟩ := s.keep r _ b nt_lst id
    exact ⟨⟨tq, k2 a⟩, us, k1, DtAll.mono s.mono c⟩
  | .dk ds, some (.ref r), ⟨a, us, b, c⟩ =>
    obtain ⟨k1, k2⟩ := s.keep r _ b (fun _ z => by cases z) id
    exact ⟨k2 a, us, k1, DtK.mono s.mono c⟩
theorem RS.fstpO {F H F' H' : Hp} {env : Ev} {σ : L2.St} {i : Nat} {tg : Option Addr} {L L' : List D} {p : Addr} {ws' : List V} (R : RS K Tb F H env σ) (e : env[i]? = some (.ow tg L)) (hs : σ[i]? = some (some (.ref p))) (s : FStp Tb (fun b => b = p) F H F' H')
    (hF : F' p = none) (hl : H' p = some (.lst ws')) (hd : DtAll K F' ws' L') : Stp K Tb F H env σ F' H' (env.set i (.ow tg L')) σ := by
  have own : Owned env σ p := ⟨i, _, e, rfl, hs⟩
  have hi : i < env.length := (List.getElem?_eq_some_iff.mp e).1
  have at_ : ∀ j y, (env.set i (.ow tg L'))[j]? = some y → (j = i ∧ y = .ow tg L') ∨ (j ≠ i ∧ env[j]? = some y) := fun j y q => by
    by_cases hj : j = i
    · subst hj
      rw [List.getElem?_set_self hi] at q
      exact .inl ⟨rfl, (Option.some.inj q).symm⟩
    · rw [List.getElem?_set_ne (Ne.symm hj)] at q
      exact .inr ⟨hj, q⟩
  refine ⟨s.mono, fun b o e nt no => s.keep b o e nt fun z => no (by rw [z]; exact own), s.dom, ⟨s.wf, by rw [List.length_set]; exact R.len, fun j y q => ?_, fun j k y z q1 q2 o1 o2 q3 => ?_⟩, fun b q => .inl ?_⟩
  · rcases at_ j y q with ⟨rfl, rfl⟩ | ⟨hj, q⟩
    · exact ⟨_, hs, ⟨R.owT e hs, hF⟩, ws', hl, hd⟩
    · obtain ⟨w, h1, h2⟩ := R.slot j y q
      refine ⟨w, h1, ?_⟩
      have nep : ∀ r, w = some (.ref r) → y.own = true → r ≠ p := fun r er oy z => by
        subst z
        exact hj (R.sep j i y _ q e oy rfl (by rw [h1, er, hs]))
      match y, w, h2 with
      | .un, _, _ => trivial
      | .fz d, some v, h2 => exact Dt.mono s.mono h2
      | .sq ds, some (.ref q), ⟨us, b, c⟩ => exact ⟨us, SqL.mono s.mono b, DtAll.mono s.mono c⟩
      | .ow tg2 ds, some (.ref r), ⟨⟨tq, a⟩, us, b, c⟩ =>
        obtain ⟨k1, k2⟩ := s.keep r _ b nt_lst (nep r rfl rfl)
        exact ⟨⟨tq, k2 a⟩, us, k1, DtAll.mono s.mono c⟩
      | .dk ds, some (.ref r), ⟨a, us, b, c⟩ =>
        obtain ⟨k1, k2⟩ := s.keep r _ b (fun _ z => by cases z) (nep r rfl rfl)
        exact ⟨k2 a, us, k1, DtK.mono s.mono c⟩
  · rcases at_ j y q1 with ⟨ej, ey⟩ | ⟨hj, q1'⟩
    · rcases at_ k z q2 with ⟨ek, _⟩ | ⟨hk, q2'⟩
      · rw [ej, ek]
      · rw [ej] at q3 ⊢
        exact R.sep _ _ _ z e q2' rfl o2 q3
    · rcases at_ k z q2 with ⟨ek, _⟩ | ⟨hk, q2'⟩
      · rw [ek] at q3 ⊢
        exact R.sep _ _ y _ q1' e o1 rfl q3
      · exact R.sep _ _ y z q1' q2' o1 o2 q3
  · obtain ⟨j, y, q1, q2, q3⟩ := q
    rcases at_ j y q1 with ⟨ej, _⟩ | ⟨hj, q1'⟩
    · rw [ej] at q3
      exact ⟨i, _, e, rfl, q3⟩
    · exact ⟨j, y, q1', q2, q3⟩
section
variable {k : Nat} {f : Addr} {fd : FuncData} {ps : List Str} {n : Nat} {x : Str} {p pos : Pos} {e : Expr} {es : List Expr}
theorem d_call {mf : List D → Option D} {fs : EM (List D)} (G : FnOk X.prog X.w X.K X.mg X.base CX0 k f fd ps (spD X.K Tb n mf)) (hr : Room k X.A) (hg : Gl X x) (hm : X.mg x = some (.ref f)) (hk : PySem.W.keepIn X.K (.ref f) = true) (hb : Binds X.K fd ps []) (hn : (e :: es).length = n)
    (ha : PA X (e :: es) (tDA X.K Tb fs)) (hl : ∀ env ds env', fs env = some (ds, env') → ds.length = n) (hdb : (x == ("__debug__" : Str)) = false := by decide) (he : starEach (e :: es) X.env = (false, eval e X.env) :: starEach es X.env := by rfl) (hpl : (backTo pos (starEach es X.env)).any (·.1) = false := by rfl) :
    PE X (.Call (.Name x p) (e :: es) [] pos) (tD X.K Tb (eCall mf fs)) :=
  pe_imp (pe_call G hr hg hm hk hb .nil pass0 ha hdb he hpl) fun σ H Q ⟨env, d, env', F, hf, R, kk⟩ => by
    unfold eCall at hf
    split at hf
    · rename_i ds e1 h1
      split at hf
      · rename_i z h2
        cases hf
        refine ⟨env, ds, _, F, h1, R, fun F1 H1 vs S1 D1 => ⟨F1, ds, d, ?_, S1.rs.wf, by rw [List.append_nil]; exact D1, h2, fun F2 H2 v s dv => kk F2 H2 v (S1.trans (RS.fstp S1.rs s)) dv⟩⟩
        rw [List.append_nil, DtAll.length D1]
        exact hl _ _ _ h1
      · cases hf
    · cases hf
/-- f(xs, ..), xs the own list of slot i -/
def eCallO (i : Nat) (mf : List D → List D → Option (D × List D)) (fs : EM (List D)) : EM D := fun env => match env[i]? with
  | some (.ow _ _) => match fs env with
    | some (ds, e1) => match e1[i]? with
      | some (.ow t L) => match mf L ds with
        | some (d, L') => some (d, e1.set i (.ow t L'))
        | none => none
      | _ => none
    | none => none
  | _ => none
theorem d_callO {i : Nat} {mf : List D → List D → Option (D × List D)} {fs : EM (List D)} (G : FnOk X.prog X.w X.K X.mg X.base CX0 k f fd ps (spO X.K Tb n mf)) (hr : Room k X.A) (hg : Gl X x) (hm : X.mg x = some (.ref f)) (hk : PySem.W.keepIn X.K (.ref f) = true) (hb : Binds X.K fd ps [])
    (ho : PE X e (tVar i)) (ha : PA X es (tDA X.K Tb fs)) (hl : ∀ env ds env', fs env = some (ds, env') → ds.length = n) (hdb : (x == ("__debug__" : Str)) = false := by decide) (he : starEach (e :: es) X.env = (false, eval e X.env) :: starEach es X.env := by rfl) (hpl : (backTo pos (starEach es X.env)).any (·.1) = false := by rfl) :
    PE X (.Call (.Name x p) (e :: es) [] pos) (tD X.K Tb (eCallO i mf fs)) :=
  pe_imp (pe_call G hr hg hm hk hb .nil pass0 (pa_cons ho ha he) hdb he hpl) fun σ H Q ⟨env, d, env', F, hf, R, kk⟩ => by
    unfold eCallO at hf
    split at hf
    · rename_i tg0 L0 h0
      split at hf
      · rename_i ds e1 h1
        split at hf
        · rename_i tg L h2
          split at hf
          · rename_i d' L' h3
            cases hf
            obtain ⟨a, vs0, hs0, f0, l0, _⟩ := R.ow h0
            refine ⟨.ref a, hs0, ⟨env, ds, e1, F, h1, R, fun F1 H1 vs S1 D1 => ?_⟩⟩
            obtain ⟨a', ws, hs1, f1, l1, d1⟩ := S1.rs.ow h2
            rw [hs0] at hs1
            cases hs1
            refine ⟨F1, a, vs, ws, L, ds, d, L', by rw [List.append_nil], by rw [DtAll.length D1]; exact hl _ _ _ h1, S1.rs.wf, f1, l1, d1, D1, h3, fun F2 H2 v ws' s hF hl' hd dv => ?_⟩
            exact kk F2 H2 v (S1.trans (RS.fstpO S1.rs h2 hs0 s hF hl' hd)) dv
          · cases hf
        · cases hf
      · cases hf
    · cases hf
end
/-- lengths of argument lists, for d_call -/
theorem eA0_len {env : Ev} {ds : List D} {env' : Ev} (h : eA0 env = some (ds, env')) : ds.length = 0 := by cases h; rfl
theorem eAc_len {a : EM D} {as : EM (List D)} {n : Nat} (hl : ∀ env ds env', as env = some (ds, env') → ds.length = n) : ∀ env ds env', eAc a as env = some (ds, env') → ds.length = n + 1 := fun env ds env' h => by
  unfold eAc at h
  split at h
  · rename_i x e1 h1
    split at h
    · rename_i xs e2 h2
      cases h
      rw [List.length_cons, hl _ _ _ h2]
    · cases h
  · cases h

/-! ### a def's body -/
/-- a def as it stands, its code object at c -/
structure FunG (K : PySem.W.Frag) (x qual : Str) (st : Stmt) (f : Addr) (fd : FuncData) (c : Addr) : Prop where
  ex : ∃ (oc : Value) (od : Option Addr) (kV doc pm : Value) (an : Option Addr) (ct : Value) (osl : Array (Option Value)),
    fd = PySem.W.fnOf x qual (defArgs st) (defBody st) (defScope st) .none kV doc pm an (.ref c) ct ∧ K.lookup f = some ⟨oc, od, .func fd, osl⟩ ∧ PySem.W.codeIn K (.ref c) qual = true
  kp : PySem.W.keepIn K (.ref f) = true
theorem FunG.fun {K : PySem.W.Frag} {x qual : Str} {st : Stmt} {f : Addr} {fd : FuncData} {c : Addr} (F : FunG K x qual st f fd c) : Fun K x qual st f fd :=
  ⟨let ⟨oc, od, kV, doc, pm, an, ct, osl, h1, h2, h3⟩ := F.ex; ⟨oc, od, kV, doc, pm, an, .ref c, ct, osl, h1, h2, h3⟩, F.kp⟩
/-- the names at the entry -/
def env0 (N : List Str) (ds : List D) : Ev := ds.map .fz ++ List.replicate (N.length - ds.length) .un
def envO (N : List Str) (p : Addr) (L : List D) (ds : List D) : Ev := .ow (some p) L :: (ds.map .fz ++ List.replicate (N.length - (ds.length + 1)) .un)
abbrev bcx (P : Program) (w : World) (K : PySem.W.Frag) (mg : Str → Option Value) (base : Heap) (N : List Str) (qual : Str) (scope : Scope) (f c : Addr) (A : Around) (outer : List Env) (s : Shared) (H : Hp) (E : XK) : Cx := (cxOf CX0 P w K mg base N qual scope f (.ref c) A outer s H E).nox
theorem start_at {N : List Str} {vs : List V} {i : Nat} : (L2.start N vs)[i]? = if i < vs.length then (vs[i]?).map some else if i < vs.length + (N.length - vs.length) then some none else none := by
  unfold L2.start
  split
  · rename_i h
    rw [List.getElem?_append_left (by simpa using h), List.getElem?_map]
  · rename_i h
    rw [List.getElem?_append_right (by simpa using h), List.getElem?_replicate, List.length_map]
    split
    · rw [if_pos (by omega)]
    · rw [if_neg (by omega)]
theorem env0_at {N : List Str} {ds : List D} {i : Nat} {x : SV} (h : (env0 N ds)[i]? = some x) : (∃ d, ds[i]? = some d ∧ x = .fz d) ∨ (ds.length ≤ i ∧ x = .un ∧ i < (env0 N ds).length) := by
  have hlt := (List.getElem?_eq_some_iff.mp h).1
  unfold env0 at h
  by_cases hi : i < ds.length
  · rw [List.getElem?_append_left (by simpa using hi), List.getElem?_map, List.getElem?_eq_getElem hi] at h
    exact .inl ⟨_, List.getElem?_eq_getElem hi, (Option.some.inj h).symm⟩
  · rw [List.getElem?_append_right (by simpa using hi), List.getElem?_replicate] at h
    split at h
    · exact .inr ⟨by omega, (Option.some.inj h).symm, hlt⟩
    · cases h
theorem rs_start {N : List Str} {F H : Hp} {vs : List V} {ds : List D} (wf : Wf Tb F H) (hd : DtAll K F vs ds) (hn : vs.length ≤ N.length) : RS K Tb F H (env0 N ds) (L2.start N vs) := by
  have hl : (env0 N ds).length = (L2.start N vs).length := by
    unfold env0 L2.start
    rw [List.length_append, List.length_append, List.length_map, List.length_map, List.length_replicate, List.length_replicate, DtAll.length hd]
  refine ⟨wf, hl, fun i x e => ?_, fun i j x y e1 e2 o1 o2 _ => ?_⟩
  · rcases env0_at e with ⟨d, h1, rfl⟩ | ⟨h1, rfl, h3⟩
    · obtain ⟨v, g1, g2⟩ := DtAll.get hd h1
      refine ⟨some v, ?_, g2⟩
      rw [start_at, if_pos (List.getElem?_eq_some_iff.mp g1).1, g1]
      rfl
    · exact ⟨_, List.getElem?_eq_getElem (by rw [← hl]; exact h3), trivial⟩
  · rcases env0_at e1 with ⟨d, _, rfl⟩ | ⟨_, rfl, _⟩ <;> cases o1
/-- what is wanted behind a body -/
def rets (d : D) : Fl → Prop
  | .rt d' _ => d' = d
  | .nx _ => d = .none
  | _ => False
variable {P : Program} {w : World} {mg : Str → Option Value} {base : Heap}
/-- THE RULE for a def over data: its body, and that the body gives what mf says -/
theorem fn_D {x qual : Str} {st : Stmt} {f c : Addr} {fd : FuncData} {N ps : List Str} {k n : Nat} {mf : List D → Option D} {sm : SM} (F : FunG K x qual st f fd c) (S : FnScope N ps (defScope st)) (hn : ps.length = n)
    (body : ∀ (A : Around) (outer : List Env) (s : Shared) (H : Hp) (E : XK), Room k (A.deeper (envOfC qual (defScope st) s.heap.objs.size f (.ref c))) → PSs (bcx P w K mg base N qual (defScope st) f c A outer s H E) (defBody st) (tDS K Tb sm))
    (sem : ∀ ds d, ds.length = n → mf ds = some d → sm (env0 N ds) (rets d)) : FnOk P w K mg base CX0 (k + 1) f fd ps (spD K Tb n mf) := by
  obtain ⟨oc, od, kV, doc, pm, an, ct, osl, rfl, lk, hcd⟩ := F.ex
  refine fn_of lk hcd S (fun vs H Q E ⟨F, ds, d, hl, _⟩ => hl.trans hn.symm) fun A outer s H vs Q E hr ⟨F0, ds, d, hl, wf, hd, hm, kk⟩ => ?_
  refine ⟨_, PSs.nox (body A outer s H E hr), ⟨env0 N ds, F0, _, sem ds d (by rw [← DtAll.length hd]; exact hl) hm, ?_, fun fl hfl F' H' σ' S' => ?_⟩⟩
  · refine rs_start wf hd ?_
    have hpl : ps.length ≤ N.length := by have := congrArg List.length S.pre; rw [List.length_take] at this; omega
    omega
  · have noOwn : ∀ b, ¬ Owned (env0 N ds) (L2.start N vs) b := fun b ⟨i, x, e, o, _⟩ => by
      rcases env0_at e with ⟨d, _, rfl⟩ | ⟨_, rfl, _⟩ <;> cases o
    have fs : FStp Tb (fun _ => False) F0 H F' H' := ⟨S'.mono, fun b o e nt _ => S'.keep b o e nt (noOwn b), S'.dom, S'.rs.wf⟩
    cases fl with
    | nx e =>
      have hd' : d = .none := hfl
      subst hd'
      exact kk F' H' _ fs .non
    | rt d' e =>
      have hd' : d' = d := hfl
      subst hd'
      exact fun v hv => kk F' H' v fs hv
    | bk e => exact hfl.elim
    | ct e => exact hfl.elim
/-- .. the own list of slot 0 goes back -/
def retsO (p : Addr) (d : D) (L : List D) : Fl → Prop
  | .rt d' e => d' = d ∧ e[0]? = some (.ow (some p) L)
  | .nx e => d = .none ∧ e[0]? = some (.ow (some p) L)
  | _ => False
theorem envO_at {N : List Str} {p : Addr} {L ds : List D} {i : Nat} {x : SV} (h : (envO N p L ds)[i]? = some x) : (i = 0 ∧ x = .ow (some p) L) ∨ (∃ j d, i = j + 1 ∧ ds[j]? = some d ∧ x = .fz d) ∨ (ds.length + 1 ≤ i ∧ x = .un ∧ i < (envO N p L ds).length) := by
  have hlt := (List.getElem?_eq_some_iff.mp h).1
  unfold envO at h
  cases i with
  | zero => exact .inl ⟨rfl, (Option.some.inj h).symm⟩
  | succ j =>
    rw [List.getElem?_cons_succ] at h
    by_cases hi : j < ds.length
    · rw [List.getElem?_append_left (by simpa using hi), List.getElem?_map, List.getElem?_eq_getElem hi] at h
      exact .inr (.inl ⟨j, _, rfl, List.getElem?_eq_getElem hi, (Option.some.inj h).symm⟩)
    · rw [List.getElem?_append_right (by simpa using hi), List.getElem?_replicate] at h
      split at h
      · exact .inr (.inr ⟨by omega, (Option.some.inj h).symm, hlt⟩)
      · cases h
theorem rs_startO {N : List Str} {F H : Hp} {p : Addr} {ws us : List V} {L ds : List D} (wf : Wf Tb F H) (hF : F p = none) (hl : H p = some (.lst ws)) (hL : DtAll K F ws L) (hd : DtAll K F us ds) (hn : us.length + 1 ≤ N.length) : RS K Tb F H (envO N p L ds) (L2.start N (.ref p :: us)) := by
  have hle : (envO N p L ds).length = (L2.start N (.ref p :: us)).length := by
    unfold envO L2.start
    simp only [List.length_cons, List.length_append, List.length_map, List.length_replicate, DtAll.length hd]
    omega
  have at0 : ∀ i y, (envO N p L ds)[i]? = some y → y.own = true → i = 0 := fun i y e o => by
    rcases envO_at e with ⟨h, _⟩ | ⟨_, _, _, _, rfl⟩ | ⟨_, rfl, _⟩
    · exact h
    · cases o
    · cases o
  refine ⟨wf, hle, fun i x e => ?_, fun i j x y e1 e2 o1 o2 _ => by rw [at0 i x e1 o1, at0 j y e2 o2]⟩
  rcases envO_at e with ⟨rfl, rfl⟩ | ⟨j, d, rfl, h1, rfl⟩ | ⟨h1, rfl, h3⟩
  · exact ⟨some (.ref p), by rw [start_at]; rfl, ⟨fun q z => (Option.some.inj z).symm, hF⟩, ws, hl, hL⟩
  · obtain ⟨v, g1, g2⟩ := DtAll.get hd h1
    refine ⟨some v, ?_, g2⟩
    have hj := (List.getElem?_eq_some_iff.mp g1).1
    rw [start_at, if_pos (by simpa using hj), List.getElem?_cons_succ, g1]
    rfl
  · exact ⟨_, List.getElem?_eq_getElem (by rw [← hle]; exact h3), trivial⟩
theorem fn_O {x qual : Str} {st : Stmt} {f c : Addr} {fd : FuncData} {N ps : List Str} {k n : Nat} {mf : List D → List D → Option (D × List D)} {sm : SM} (F : FunG K x qual st f fd c) (S : FnScope N ps (defScope st)) (hn : ps.length = n + 1)
    (body : ∀ (A : Around) (outer : List Env) (s : Shared) (H : Hp) (E : XK), Room k (A.deeper (envOfC qual (defScope st) s.heap.objs.size f (.ref c))) → PSs (bcx P w K mg base N qual (defScope st) f c A outer s H E) (defBody st) (tDS K Tb sm))
    (sem : ∀ p L ds d L', ds.length = n → mf L ds = some (d, L') → sm (envO N p L ds) (retsO p d L')) :
    FnOk P w K mg base CX0 (k + 1) f fd ps (spO K Tb n mf) := by
  obtain ⟨oc, od, kV, doc, pm, an, ct, osl, rfl, lk, hcd⟩ := F.ex
  refine fn_of lk hcd S (fun vs H Q E ⟨F, p, us, ws, L, ds, d, L', e, hl, _⟩ => by rw [e, List.length_cons, hl, hn]) fun A outer s H vs Q E hr ⟨F0, p, us, ws, L, ds, d, L', e, hl, wf, hF, hH, hL, hd, hm, kk⟩ => ?_
  subst e
  have hpl : ps.length ≤ N.length := by have := congrArg List.length S.pre; rw [List.length_take] at this; omega
  have R0 : RS K Tb F0 H (envO N p L ds) (L2.start N (.ref p :: us)) := rs_startO wf hF hH hL hd (by omega)
  refine ⟨_, PSs.nox (body A outer s H E hr), ⟨envO N p L ds, F0, _, sem p L ds d L' (by rw [← DtAll.length hd]; exact hl) hm, R0, fun fl hfl F' H' σ' S' => ?_⟩⟩
  have isP : ∀ b, Owned (envO N p L ds) (L2.start N (.ref p :: us)) b → b = p := fun b ⟨i, x, e, o, hs⟩ => by
    rcases envO_at e with ⟨rfl, rfl⟩ | ⟨_, _, _, _, rfl⟩ | ⟨_, rfl, _⟩
    · rw [start_at] at hs
      cases hs
      rfl
    · cases o
    · cases o
  have fs : FStp Tb (fun b => b = p) F0 H F' H' := ⟨S'.mono, fun b o e nt no => S'.keep b o e nt fun z => no (isP b z), S'.dom, S'.rs.wf⟩
  have back : ∀ e, fl.env = e → e[0]? = some (.ow (some p) L') → ∃ ws', F' p = none ∧ H' p = some (.lst ws') ∧ DtAll K F' ws' L' := fun e he h0 => by
    have R' := S'.rs
    rw [he] at R'
    obtain ⟨q, vs', h1, h2, h3, h4⟩ := R'.ow h0
    have := R'.owT h0 h1 p rfl
    subst this
    exact ⟨vs', h2, h3, h4⟩
  cases fl with
  | nx e =>
    obtain ⟨hd', h0⟩ := hfl
    subst hd'
    obtain ⟨ws', h2, h3, h4⟩ := back e rfl h0
    exact kk F' H' _ ws' fs h2 h3 h4 .non
  | rt d' e =>
    obtain ⟨hd', h0⟩ := hfl
    subst hd'
    obtain ⟨ws', h2, h3, h4⟩ := back e rfl h0
    exact fun v hv => kk F' H' v ws' fs h2 h3 h4 hv
  | bk e => exact hfl.elim
  | ct e => exact hfl.elim
end
end DL

namespace DL
open PySem PySem.Spec PyProof.Rows L2 GxR
section
variable {X : Cx} {K : PySem.W.Frag} {Tb : List Addr}
/-! ### sum of a generator expression -/
def eSumG (vs : List Nat) (it : EM (List D)) (g : GM) (c : EM Bool) (e : EM D) : EM D := fun env => match it env with
  | some (ds, e1) => match cLoop vs g c e ds (unE e1 vs) with
    | some (ys, e2) => match intsOf ys with
      | some is => some (.int is.sum, reE e1 e2 vs)
      | none => none
    | none => none
  | none => none
theorem sum_snoc : ∀ (a : List Int) (x : Int), (a ++ [x]).sum = a.sum + x
  | [], x => by simp
  | y :: a, x => by rw [List.cons_append, List.sum_cons, sum_snoc a x, List.sum_cons]; omega
theorem sum_rev : ∀ a : List Int, a.reverse.sum = a.sum
  | [] => rfl
  | y :: a => by rw [List.reverse_cons, sum_snoc, sum_rev a, List.sum_cons]; omega
theorem range_get (l : List Int) : (List.range l.length).map (fun j => (l[j]?).getD 0) = l := by
  refine List.ext_getElem (by simp) fun i h1 h2 => ?_
  rw [List.getElem_map, List.getElem_range, List.getElem?_eq_getElem h2]
  rfl
theorem rev_at {is pre : List Int} {i0 : Int} {r : List Int} (h : is = pre ++ i0 :: r) : (is.reverse[r.length]?).getD 0 = i0 := by
  subst h
  rw [List.reverse_append, List.reverse_cons, List.append_assoc, List.getElem?_append_right (by simp)]
  simp
theorem sum_reading {P : Addr} (hP : P ∈ Tb) {vs : List Nat} {it : EM (List D)} {g : GM} {c : EM Bool} {e : EM D} {σ : L2.St} {H : Hp} {Q : VK} (h : tD K Tb (eSumG vs it g c e) σ H Q) :
    tSumG P (tDI K Tb it) (tDG K Tb vs g) (tDT K Tb c) (tD K Tb e) vs σ H Q := by
  obtain ⟨env, b0, env', F, hf, R, k⟩ := h
  unfold eSumG at hf
  split at hf
  · rename_i ds e1 h1
    split at hf
    · rename_i ys e2 h2
      split at hf
      · rename_i is hi
        cases hf
        refine ⟨fun j => (is.reverse[j]?).getD 0, is.length, env, ds, e1, F, h1, R, fun F1 H1 J S1 jok => ⟨S1.rs.wf.tabs P hP, fun H2 tb => ?_⟩⟩
        have ST := RS.tabbed S1.rs (S1.rs.wf.tabs P hP) tb
        have hsum : ((List.range is.length).map fun j => (is.reverse[j]?).getD 0).sum = is.sum := by
          have q := range_get is.reverse
          rw [List.length_reverse] at q
          rw [q, sum_rev]
        rw [hsum]
        refine ⟨fun i m r H' => r = ds.length - i ∧ ∃ F' env' ys' is' pre, Stp K Tb F1 H1 e1 σ F' H' env' (wipe σ vs) ∧ cLoop vs g c e (ds.drop i) env' = some (ys', e2) ∧ intsOf ys' = some is' ∧ is = pre ++ is' ∧ m = is'.length,
          ⟨_, _, rfl, rfl, F1, _, ys, is, [], ST.trans (RS.wipe ST.rs), h2, hi, rfl, rfl⟩, ?_⟩
        rintro i m r H' ⟨rfl, F', env', ys', is', pre, S, hr, hi', hpre, rfl⟩
        by_cases hlt : i < ds.length
        · obtain ⟨d, hd1, hd2⟩ := drop_some hlt
          rw [hd2] at hr
          obtain ⟨go, yl⟩ := (jok F' H' env' _ S.rs S.mono i).1 d hd1
          refine .inr ⟨go, fun x H2 hy => ?_⟩
          obtain ⟨F2, S2, dx⟩ := yl x H2 hy
          unfold cLoop at hr
          split at hr
          · rename_i w1 g1
            refine ⟨d, env', w1, F2, g1, S2.rs, dx, fun F3 H3 σ3 S3 o3 => ⟨by rw [o3.wipe, wipe_idem], ?_⟩⟩
            have S23 := S2.trans S3
            split at hr
            · rename_i w2 c1
              refine ⟨w1, true, w2, F3, c1, S3.rs, fun F4 H4 S4 => ?_⟩
              simp only [if_true]
              split at hr
              · rename_i y w3 y1
                split at hr
                · rename_i ys4 e4 hc4
                  cases hr
                  cases y <;> simp only [intsOf] at hi' <;> try cases hi'
                  rename_i i0
                  split at hi'
                  · rename_i is4 h4
                    cases hi'
                    refine ⟨is4.length, rfl, w2, _, w3, F4, y1, S4.rs, fun F5 H5 v S5 dv => ⟨?_, ?_⟩⟩
                    · rw [Dt.int_inv dv]; show V.int i0 = V.int ((is.reverse[is4.length]?).getD 0); rw [rev_at hpre]
                    · have S25 := (S23.trans S4).trans S5
                      have SW := RS.wipe (vs := vs) S5.rs
                      rw [o3.wipe, wipe_idem] at SW
                      refine ⟨_, rfl, F5, _, ys4, is4, pre ++ [i0], (S.trans S25).trans SW, hc4, h4, ?_, rfl⟩
                      rw [hpre, List.append_assoc]
                      rfl
                  · cases hi'
                · cases hr
              · cases hr
            · rename_i w2 c1
              refine ⟨w1, false, w2, F3, c1, S3.rs, fun F4 H4 S4 => ?_⟩
              simp only [Bool.false_eq_true, if_false]
              have S24 := S23.trans S4
              have SW := RS.wipe (vs := vs) S4.rs
              rw [o3.wipe, wipe_idem] at SW
              exact ⟨_, by omega, rfl, F4, _, ys', is', pre, (S.trans S24).trans SW, hr, hi', hpre, rfl⟩
            · cases hr
          · cases hr
        · have hdr : ds.drop i = [] := List.drop_of_length_le (by omega)
          rw [hdr] at hr
          cases hr
          cases hi'
          exact .inl ⟨(jok F' H' _ _ S.rs S.mono i).2 (by omega), rfl, k F' H' _ (S1.trans (Stp.restore S1.rs S)) (.int _)⟩
      · cases hf
    · cases hf
  · cases hf
section
variable {c P : Addr} {elt tg iter : Expr} {ifs : List Expr} {scope : Scope} {own : List (Str × Nat)} {p pos gpos : Pos} {k : Nat} {it : EM (List D)} {g : GM} {cc : EM Bool} {e : EM D}
theorem d_sum (hr : Room k X.A) (hc : X.calm = true) (hN : X.N.Nodup) (hG : Gl X "sum") (hm : X.mg "sum" = none) (TB : TabB X.base X.mg c P) (hP : P ∈ Tb) (hcode : X.env.code = .ref c) (ok : BlkOk X.N X.env.scope scope own) (gk : GOk scope) (hi : PI X tg iter (tDI X.K Tb it))
    (hg : ∀ s H C code it fp pn, PG (gctx X elt tg iter ifs scope gpos s H C code it fp pn) tg (tDG X.K Tb (own.map (·.2)) g)) (ht : ∀ s H C code it fp pn, PTs (gctx X elt tg iter ifs scope gpos s H C code it fp pn) ifs (tDT X.K Tb cc))
    (he : ∀ s H C code it fp pn, PE (gctx X elt tg iter ifs scope gpos s H C code it fp pn) elt (tD X.K Tb e))
    (hs : ∀ v, genFold iter X.env v = pure v := by intro _; rfl)
    (hst : starEach [.GeneratorExp elt [⟨tg, iter, ifs, 0⟩] scope gpos] X.env = (false, eval (.GeneratorExp elt [⟨tg, iter, ifs, 0⟩] scope gpos) X.env) :: starEach [] X.env := by rfl) :
    PE X (.Call (.Name "sum" p) [.GeneratorExp elt [⟨tg, iter, ifs, 0⟩] scope gpos] [] pos) (tD X.K Tb (eSumG (own.map (·.2)) it g cc e)) :=
  pe_imp (pe_sumG hr hc hN hG hm TB hcode ok gk hi hg ht he (hs := hs) (hst := hst)) fun σ H Q h => sum_reading hP h
end

/-! ### a name of the module -/
theorem d_glob {x : Str} {v : V} {u : Value} {d : D} {pos : Pos} (hg : Gl X x) (hm : X.mg x = some u) (r : RelV v u) (hd : ∀ F, Dt X.K F v d) (hdb : (x == ("__debug__" : Str)) = false := by decide) : PE X (.Name x pos) (tD X.K Tb (eC d)) := d_const (pe_glob hg hm r hdb) hd

/-! ### list(x) -/
def dList : List D → Option D
  | [.list xs] => some (.list xs)
  | [.tuple xs] => some (.list xs)
  | _ => none
theorem c_list : CallR X (.type "list") (rDC X.K dList) := callR_imp call_list_of fun vs H Q ⟨F, ds, z, m, hd, hg, k⟩ => by
  unfold dList at hg
  split at hg
  · cases hg
    obtain ⟨v, rfl, hv⟩ := DtAll.one_inv hd
    obtain ⟨a, xs, rfl, g1, g2⟩ := Dt.list_inv hv
    refine ⟨a, xs, rfl, .inl (SqL.of (m _ _ g1)), fun l hl => k _ _ _ (.inr ⟨l, _, hl, nt_lst, rfl, rfl⟩) ?_⟩
    exact .lst upd_same (DtAll.mono (Mono.upd (m.fnone hl)) g2)
  · cases hg
    obtain ⟨v, rfl, hv⟩ := DtAll.one_inv hd
    obtain ⟨a, xs, rfl, g1, g2⟩ := Dt.tup_inv hv
    refine ⟨a, xs, rfl, .inr (SqT.mono m g1), fun l hl => k _ _ _ (.inr ⟨l, _, hl, nt_lst, rfl, rfl⟩) ?_⟩
    exact .lst upd_same (DtAll.mono (Mono.upd (m.fnone hl)) g2)
  · cases hg

/-! ### times: ints, lists, tuples -/
def dMul : D → D → Option D
  | .int i, .int j => dMulI (.int i) (.int j)
  | .list xs, .int k => if -(2 ^ 63) ≤ k ∧ k < 2 ^ 63 ∧ xs.length * k.toNat ≤ sizeLine then some (.list (List.replicate k.toNat xs).flatten) else none
  | .tuple xs, .int k => if xs ≠ [] ∧ 2 ≤ k ∧ k ≤ 1000 ∧ xs.length ≤ 1000 then some (.tuple (List.replicate k.toNat xs).flatten) else none
  | _, _ => none
theorem o_mul : OpD X (binaryOp .Mult) dMul := opD_of ((op_mul.or op_rep).or op_repT) fun x y H Q ⟨F, d, e, z, m, dx, dy, hg, k⟩ => by
  unfold dMul at hg
  split at hg
  · rename_i i j
    unfold dMulI d2I at hg
    simp only at hg
    split at hg
    · rename_i hc
      cases hg
      exact .inl (.inl ⟨_, _, Dt.int_inv dx, Dt.int_inv dy, hc, k F H _ (.inl ⟨rfl, rfl⟩) (.int _)⟩)
    · cases hg
  · split at hg
    · rename_i hc
      cases hg
      obtain ⟨a, xs, rfl, g1, g2⟩ := Dt.list_inv dx
      refine .inl (.inr ⟨a, _, xs, rfl, Dt.int_inv dy, m _ _ g1, hc.1, hc.2.1, by rw [DtAll.length g2]; exact hc.2.2, fun l hl => k _ _ _ (.inr ⟨l, _, hl, nt_lst, rfl, rfl⟩) ?_⟩)
      exact .lst upd_same (DtAll.mono (Mono.upd (m.fnone hl)) (DtAll.rep g2 _))
    · cases hg
  · split at hg
    · rename_i hc
      cases hg
      obtain ⟨a, xs, rfl, g1, g2⟩ := Dt.tup_inv dx
      have hl := DtAll.length g2
      refine .inr ⟨a, _, xs, rfl, Dt.int_inv dy, SqT.mono m g1, fun z => hc.1 (by subst z; exact DtAll.nil_inv' g2), hc.2.1, hc.2.2.1, by rw [hl]; exact hc.2.2.2, fun l hl => k _ _ _ (.inr ⟨l, _, hl, nt_tup, rfl, rfl⟩) ?_⟩
      exact .tup (SqT.of upd_same) (DtAll.mono (Mono.upd (m.fnone hl)) (DtAll.rep g2 _))
    · cases hg
  · cases hg

/-! ### in -/
def flatD : D → Bool
  | .int _ => true
  | .bool _ => true
  | .str _ => true
  | .none => true
  | _ => false
def dIn (d : D) : D → Option D
  | .list ds => if SeqAt.shaped d && SeqAt.shaped (.list ds) then some (.bool (ds.any fun z => PyData.eqv z d)) else none
  | _ => none
def dNotIn (d e : D) : Option D := (dIn d e).bind dNot
theorem o_in (hu : X.A.units + 65 < cLine) : OpD X (compareOp .In) dIn := opD_of (op_inD hu) fun x y H Q ⟨F, d, e, z, m, dx, dy, hg, k⟩ => by
  unfold dIn at hg
  split at hg
  · split at hg
    · rename_i hc
      cases hg
      rw [Bool.and_eq_true] at hc
      exact ⟨_, _, (Dt.mono m dx).toDp, (Dt.mono m dy).toDp, hc.1, hc.2, k F H _ (.inl ⟨rfl, rfl⟩) (.bl _)⟩
    · cases hg
  · cases hg
theorem o_notIn (hu : X.A.units + 65 < cLine) : OpD X (compareOp .NotIn) dNotIn := opD_of (op_notInD hu) fun x y H Q ⟨F, d, e, z, m, dx, dy, hg, k⟩ => by
  unfold dNotIn dIn at hg
  split at hg
  · split at hg
    · rename_i hc
      cases hg
      rw [Bool.and_eq_true] at hc
      exact ⟨_, _, (Dt.mono m dx).toDp, (Dt.mono m dy).toDp, hc.1, hc.2, k F H _ (.inl ⟨rfl, rfl⟩) (.bl _)⟩
    · cases hg
  · cases hg

/-! ### len of an own list -/
def eLenO (i : Nat) : EM D := fun env => match env[i]? with
  | some (.ow _ ds) => some (.int ds.length, env)
  | _ => none
theorem d_lenO {i : Nat} {e : Expr} {p pos : Pos} (ho : PE X e (tVar i)) (hg : Gl X "len") (hm : X.mg "len" = none) (hv : bootBuiltins "len" = some (.builtin "len") := by decide +kernel)
    (he : starEach [e] X.env = (false, eval e X.env) :: starEach [] X.env := by rfl) (hpl : (backTo pos (starEach [] X.env)).any (·.1) = false := by rfl) : PE X (.Call (.Name "len" p) [e] [] pos) (tD X.K Tb (eLenO i)) :=
  pe_imp (pe_callB call_len_seq hg hm hv (pa_cons ho pa_nil he) (by decide) (by decide) he hpl) fun σ H Q ⟨env, d, env', F, hf, R, k⟩ => by
    unfold eLenO at hf
    split at hf
    · rename_i tg ds h0
      cases hf
      obtain ⟨p, vs, hs0, f0, l0, d0⟩ := R.ow h0
      exact ⟨.ref p, hs0, p, vs, rfl, .inl (SqL.of l0), k F H _ (Stp.refl R) (by rw [DtAll.length d0]; exact .int _)⟩
    · cases hf
end
end DL

namespace DL
open PySem PySem.Spec PyProof.Rows L2 GxR
/-! ### sorted(d), ints, any number of keys -/
section
variable {X : Cx}
theorem call_sortedDIO (hcalm : X.calm = true) : CallR X (.builtin "sorted") (fun xs H Q => ∃ (a : Addr) (kvs : List (Key × V)) (ks : List Int), xs = [.ref a] ∧ Rd H a (.dK kvs) ∧ kvs.map (·.1) = ks.map Sum.inl ∧
    ∀ (ys : List Int) (p : Addr), ys.Perm ks → ys.Pairwise (· ≤ ·) → H p = none → Q (.ref p) (upd H p (.lst (ys.map V.int)))) := by
  intro pins s σ H xs us Q I r q
  obtain ⟨a, kvs, ks, ex, hd, hks, q⟩ := q
  subst ex
  obtain ⟨u, eu, rx⟩ := vals1 r
  subst eu
  cases rx
  obtain ⟨z, lo, vs, rel, dd⟩ := dk_rd I.hok hd
  obtain ⟨ep, hat⟩ := dd.dictAt
  have hkeys : vs.map (·.1) = ks.map Sum.inl := rel.keys.symm.trans hks
  have hl : vs.length = ks.length := by
    have e := congrArg List.length hkeys
    rw [List.length_map, List.length_map] at e
    exact e
  have h16 : vs.length ≤ sizeLine := by rw [← rel.length]; exact z
  refine Calls.call_function_entry PyProof.Rows.kind_sorted PyProof.Rows.plain_sorted PyProof.Rows.entry_sorted (PyProof.Rows.args_sorted1 _) ?_
  unfold Builtin.«sorted»
  refine wpAny_bind (m := checkCount "sorted" 1 1 _) (wpAny_pure ?_)
  refine wpAny_bind (PySem.W.kdu_collect (A := X.A.in1) (PySem.W.kdl_dict (knd := mixKind X.prog X.w) (kvs := vs) (ep := ep) lo) (I.ok.hd hcalm) hat h16 fun h' tk acc hk hacc => ?_)
  have hal : acc.toList.length = ks.length := by rw [Array.length_toList, hacc.1, hl]
  have hS : IntsAre acc.toList ks := ints_each hal fun j v e => by
    obtain ⟨k, x, e1, e2⟩ := hacc.2 j v (by rw [← Array.getElem?_toList]; exact e)
    have e3 : (vs.map (·.1))[j]? = some k := by rw [List.getElem?_map, e1]; rfl
    rw [hkeys, List.getElem?_map] at e3
    cases e4 : ks[j]? with
    | none => rw [e4] at e3; cases e3
    | some y =>
      rw [e4] at e3
      have e5 : Sum.inl y = k := Option.some.inj e3
      subst e5
      rcases keyIs_shape (show keyIs (Sum.inl y) v = true from e2) with ⟨i, t, ek, ev⟩ | ⟨z, t, ek, ev⟩
      · cases ek
        exact ⟨y, t, rfl, ev⟩
      · cases ek
  have I1 : Inv X pins σ H { s with heap := h', toks := tk } := I.kept hk
  refine wpAny_bind (wpAny_newList ?_ (by rw [hal, ← hl]; exact h16))
  have hoL : (h'.push (seqObj "list" acc.toList.toArray 0)).get? h'.objs.size = some (seqObj "list" acc.toList.toArray 0) := Heap.get?_push_size _ rfl
  show wpAny _ _ _ _ _ { s with heap := h'.push (seqObj "list" acc.toList.toArray 0), toks := tk }
  refine wpAny_bind (wpAny_holding (wpAny_call_entry PyProof.Rows.slot_list_sort ⟨_, hoL, rfl⟩ PyProof.Rows.entry_list_sort
    (SrtO.list_sort_ord (s := { s with heap := h'.push (seqObj "list" acc.toList.toArray 0), toks := tk }) SrtO.swo_int hoL (by rw [hal, ← hl]; exact h16) (fun h2 => SrtO.ints_sortable hS h2) fun out h1 h2 => ⟨_, rfl, ?_⟩) (PyProof.Rows.args_list_sort _)))
  obtain ⟨k1, k2, k3⟩ := SrtO.ints_out hS h1 h2
  obtain ⟨e', he'⟩ := PyProof.Rows.sortedHeap_at (vs := acc.toList) (out := out.toArray) hoL
  have hlen : ((out.map SrtO.iv).map V.int).length ≤ sizeLine := by
    rw [List.length_map, k2.length_eq, ← hl]
    exact h16
  refine wpAny_pure ⟨_, rfl, .ref h'.objs.size, upd H h'.objs.size (.lst ((out.map SrtO.iv).map V.int)), I1.laid (t' := tk) (fun b u e => ?_) (Nat.le_refl _)
    (show ObjOk X.prog X.w _ _ _ (.lst ((out.map SrtO.iv).map V.int)) from ⟨hlen, out, e', vals_of_ints k1, he'⟩), rfl, q _ _ k2 k3 (I1.hok.fresh (Nat.le_refl _))⟩
  have hb : b < h'.objs.size := Heap.lt_size e
  rw [PyProof.Rows.sortedHeap_old (Nat.ne_of_lt hb) (by rw [size_push']; exact Nat.lt_succ_of_lt hb)]
  exact Heap.get?_push_of_some _ e
end
def sortI (l : List Int) : List Int := l.mergeSort fun a b => decide (a ≤ b)
theorem sortI_perm (l : List Int) : (sortI l).Perm l := List.mergeSort_perm _ _
theorem sortI_sorted (l : List Int) : (sortI l).Pairwise (· ≤ ·) :=
  (List.pairwise_mergeSort (le := fun a b : Int => decide (a ≤ b)) (fun a b c h1 h2 => by simp only [decide_eq_true_eq] at *; omega) (fun a b => by simp only [Bool.or_eq_true, decide_eq_true_eq]; omega) l).imp fun h => of_decide_eq_true h
theorem sortI_eq {l ys : List Int} (h1 : ys.Perm l) (h2 : ys.Pairwise (· ≤ ·)) : ys = sortI l :=
  List.Perm.eq_of_pairwise (le := fun a b : Int => a ≤ b) (fun a b _ _ x y => by omega) h2 (sortI_sorted l) (h1.trans (sortI_perm l).symm)
theorem sortI_uniq {l ys : List Int} (h1 : ys.Perm l) (h2 : ys.Pairwise (· ≤ ·)) : sortI l = ys := (sortI_eq h1 h2).symm
section
variable {X : Cx} {K : PySem.W.Frag} {Tb : List Addr}
theorem DtAll.ints {F : Hp} : ∀ (ns : List Int), DtAll K F (ns.map V.int) (ns.map PyData.int)
  | [] => .nil
  | n :: ns => .cons (.int n) (DtAll.ints ns)
/-- sorted(xs), ints -/
def dSorted : List D → Option D
  | [.list xs] => match intsOf xs with
    | some is => some (.list ((sortI is).map .int))
    | none => none
  | _ => none
theorem c_sorted : CallR X (.builtin "sorted") (rDC X.K dSorted) := callR_imp cr_sortedI fun vs H Q ⟨F, ds, z, m, hd, hg, k⟩ => by
  unfold dSorted at hg
  split at hg
  · split at hg
    · rename_i is hi
      cases hg
      obtain ⟨v, rfl, hv⟩ := DtAll.one_inv hd
      obtain ⟨a, xs, rfl, g1, g2⟩ := Dt.list_inv hv
      have e := ints_vals g2 hi
      subst e
      refine ⟨a, is, rfl, SqL.of (m _ _ g1), fun ns' p h1 h2 hp => ?_⟩
      obtain rfl := sortI_eq h1 h2
      exact k _ _ _ (.inr ⟨p, _, hp, nt_lst, rfl, rfl⟩) (.lst upd_same (DtAll.ints _))
    · cases hg
  · cases hg

/-! ### own dicts -/
def keyD : D → Option Key
  | .int i => some (.inl i)
  | .str z => some (.inr z)
  | _ => none
theorem key_val {F : Hp} {v : V} {d : D} {k : Key} (h : Dt K F v d) (hk : keyD d = some k) : v = kV k := by
  cases d <;> simp only [keyD] at hk <;> cases hk
  · exact Dt.int_inv h
  · exact Dt.str_inv h
def putD (kvs : List (Key × D)) (k : Key) (d : D) : List (Key × D) := if (kvs.any fun kv => decide (kv.1 = k)) = true then kvs.map fun kv => if kv.1 = k then (kv.1, d) else kv else kvs ++ [(k, d)]
def getD (kvs : List (Key × D)) (k : Key) : Option D := (kvs.find? fun kv => decide (kv.1 = k)).map (·.2)
theorem DtK.any {F : Hp} {k : Key} : ∀ {a : List (Key × V)} {b : List (Key × D)}, DtK K F a b → (a.any fun kv => decide (kv.1 = k)) = (b.any fun kv => decide (kv.1 = k))
  | _, _, .nil => rfl
  | _, _, .cons h t => by rw [List.any_cons, List.any_cons, DtK.any t, h.1]
theorem DtK.put1 {F : Hp} {k : Key} {v : V} {d : D} (hv : Dt K F v d) : ∀ {a : List (Key × V)} {b : List (Key × D)}, DtK K F a b → DtK K F (a.map fun kv => if kv.1 = k then (kv.1, v) else kv) (b.map fun kv => if kv.1 = k then (kv.1, d) else kv)
  | _, _, .nil => .nil
  | _, _, .cons (a := p) (b := q) h t => by
    rw [List.map_cons, List.map_cons]
    refine .cons ?_ (DtK.put1 hv t)
    rw [h.1]
    by_cases hk : q.1 = k
    · rw [if_pos hk, if_pos hk]; exact ⟨rfl, hv⟩
    · rw [if_neg hk, if_neg hk]; exact h
theorem DtK.snoc {F : Hp} {k : Key} {v : V} {d : D} (hv : Dt K F v d) : ∀ {a : List (Key × V)} {b : List (Key × D)}, DtK K F a b → DtK K F (a ++ [(k, v)]) (b ++ [(k, d)])
  | _, _, .nil => .cons ⟨rfl, hv⟩ .nil
  | _, _, .cons h t => .cons h (DtK.snoc hv t)
theorem DtK.put {F : Hp} {k : Key} {v : V} {d : D} (hv : Dt K F v d) {a : List (Key × V)} {b : List (Key × D)} (h : DtK K F a b) : DtK K F (putK a k v) (putD b k d) := by
  unfold putK putD
  rw [DtK.any h]
  split
  · exact DtK.put1 hv h
  · exact DtK.snoc hv h
theorem DtK.length {F : Hp} : ∀ {a : List (Key × V)} {b : List (Key × D)}, DtK K F a b → a.length = b.length
  | _, _, .nil => rfl
  | _, _, .cons _ t => congrArg (· + 1) (DtK.length t)
theorem DtK.keys {F : Hp} : ∀ {a : List (Key × V)} {b : List (Key × D)}, DtK K F a b → a.map (·.1) = b.map (·.1)
  | _, _, .nil => rfl
  | _, _, .cons h t => by rw [List.map_cons, List.map_cons, h.1, DtK.keys t]
theorem DtK.val {F : Hp} {k : Key} : ∀ {a : List (Key × V)} {b : List (Key × D)}, DtK K F a b → match getD b k with
    | some d => ∃ v, valV a k = some v ∧ Dt K F v d
    | none => valV a k = none
  | _, _, .nil => rfl
  | _, _, .cons (a := p) (b := q) (l₁ := as) (l₂ := bs) h t => by
    have ih := DtK.val (k := k) t
    by_cases hk : q.1 = k
    · have e : getD (q :: bs) k = some q.2 := by unfold getD; rw [List.find?_cons, decide_eq_true hk]; rfl
      rw [e]
      exact ⟨p.2, valV_pos (h.1.trans hk), h.2⟩
    · have e : getD (q :: bs) k = getD bs k := by unfold getD; rw [List.find?_cons, decide_eq_false hk]
      rw [e, valV_neg (fun z => hk (h.1.symm.trans z))]
      exact ih
/-- x = {} -/
def sDk0 (i : Nat) : SM := fun env Φ => if i < env.length then Φ (.nx (env.set i (.dk []))) else False
theorem d_sdk0 {i : Nat} {x : Str} {pos' p2 pos : Pos} (hN : X.N.Nodup) (hi : X.N[i]? = some x) (hx : Loc X.env.scope x) (hs : swapsWith (.Dict [] [] p2) (some (.Name x pos')) pos.line X.env = pure false := by rfl) (hf : X.fn x = true ∨ X.env.scope.names.lookup x = some .local := by first | exact .inl rfl | exact .inr rfl | assumption) :
    PS X (.Assign [.Name x pos'] (.Dict [] [] p2) pos) (tDS X.K Tb (sDk0 i)) := ps_imp (ps_set hN hi hx pe_dnewK hs hf) fun σ H E ⟨env, F, Φ, h, R, k⟩ => by
  unfold sDk0 at h
  split at h
  · rename_i hlt
    intro p hp
    have S := RS.storeNew R (x := .dk []) (o := .dK []) hlt hp (fun _ z => by cases z) rfl ⟨lay_none R hp, [], upd_same, .nil⟩
    exact k _ h _ _ _ S
  · exact h.elim
/-- d[k] = e -/
def sDput (i : Nat) (fk f : EM D) : SM := fun env Φ => match f env with
  | some (d, e1) => match e1[i]? with
    | some (.dk _) => match fk e1 with
      | some (kd, e2) => match keyD kd with
        | some ky => match e2[i]? with
          | some (.dk kvs) => if kvs.length < sizeLine then Φ (.nx (e2.set i (.dk (putD kvs ky d)))) else False
          | _ => False
        | none => False
      | none => False
    | _ => False
  | none => False
theorem d_sdput {i : Nat} {o ix e : Expr} {p2 pos : Pos} {fk f : EM D} (hu : X.A.units + 1 < cLine) (ho : PE X o (tVar i)) (hk : PE X ix (tD X.K Tb fk)) (he : PE X e (tD X.K Tb f)) (hs : swapsWith e (some (.Subscript o ix p2)) pos.line X.env = pure false := by rfl) :
    PS X (.Assign [.Subscript o ix p2] e pos) (tDS X.K Tb (sDput i fk f)) := ps_imp (ps_dput hu ho hk he hs) fun σ H E ⟨env, F, Φ, h, R, k⟩ => by
  unfold sDput at h
  split at h
  · rename_i d e1 h1
    split at h
    · rename_i kvs0 h0
      split at h
      · rename_i kd e2 h2
        split at h
        · rename_i ky hky
          split at h
          · rename_i kvs h3
            split at h
            · rename_i hz
              refine ⟨env, d, e1, F, h1, R, fun F1 H1 v S1 D1 => ?_⟩
              obtain ⟨p, ws0, hs0, f0, l0, _⟩ := S1.rs.dk h0
              refine ⟨.ref p, hs0, ⟨e1, _, e2, F1, h2, S1.rs, fun F2 H2 u S2 D2 => ?_⟩⟩
              obtain ⟨p', ws, hs1, f1, l1, d1⟩ := S2.rs.dk h3
              rw [hs0] at hs1
              cases hs1
              rw [key_val D2 hky]
              refine ⟨p, _, rfl, DPut.k l1 (by rw [DtK.length d1]; exact hz), ?_⟩
              have SP := RS.put S2.rs (o := .dK (putK ws ky v)) (x' := .dk (putD kvs ky d)) h3 rfl hs0 rfl ⟨f1, _, upd_same, DtK.put (Dt.mono S2.mono D1) d1⟩
              exact k _ h F2 _ σ ((S1.trans S2).trans SP)
            · exact h.elim
          · exact h.elim
        · exact h.elim
      · exact h.elim
    · exact h.elim
  · exact h.elim
def intKeys : List (Key × D) → Option (List Int)
  | [] => some []
  | (.inl i, _) :: r => match intKeys r with
    | some is => some (i :: is)
    | none => none
  | _ => none
theorem intKeys_map : ∀ {kvs : List (Key × D)} {is : List Int}, intKeys kvs = some is → kvs.map (·.1) = is.map Sum.inl
  | [], _, h => by cases h; rfl
  | (.inl i, _) :: r, is, h => by
    simp only [intKeys] at h
    split at h
    · rename_i js h1
      cases h
      rw [List.map_cons, List.map_cons, intKeys_map h1]
    · cases h
  | (.inr i, _) :: r, is, h => by simp only [intKeys] at h; cases h
/-- sorted(d), an own dict with int keys -/
def eSrtDk (i : Nat) : EM D := fun env => match env[i]? with
  | some (.dk kvs) => match intKeys kvs with
    | some is => some (.list ((sortI is).map .int), env)
    | none => none
  | _ => none
theorem d_srtDk {i : Nat} {e : Expr} {p pos : Pos} (hc : X.calm = true) (ho : PE X e (tVar i)) (hg : Gl X "sorted") (hm : X.mg "sorted" = none) (hv : bootBuiltins "sorted" = some (.builtin "sorted") := by decide +kernel)
    (he : starEach [e] X.env = (false, eval e X.env) :: starEach [] X.env := by rfl) (hpl : (backTo pos (starEach [] X.env)).any (·.1) = false := by rfl) : PE X (.Call (.Name "sorted" p) [e] [] pos) (tD X.K Tb (eSrtDk i)) :=
  pe_imp (pe_callB (call_sortedDIO hc) hg hm hv (pa_cons ho pa_nil he) (by decide) (by decide) he hpl) fun σ H Q ⟨env, d, env', F, hf, R, k⟩ => by
    unfold eSrtDk at hf
    split at hf
    · rename_i kvs h0
      split at hf
      · rename_i is hi
        cases hf
        obtain ⟨p, ws, hs0, f0, l0, d0⟩ := R.dk h0
        refine ⟨.ref p, hs0, p, ws, is, rfl, .inl l0, (DtK.keys d0).trans (intKeys_map hi), fun ys q h1 h2 hq => ?_⟩
        obtain rfl := sortI_eq h1 h2
        exact k _ _ _ (RS.new R hq nt_lst) (.lst upd_same (DtAll.ints _))
      · cases hf
    · cases hf
/-- d[k] -/
def eDget (i : Nat) (fk : EM D) : EM D := fun env => match env[i]? with
  | some (.dk _) => match fk env with
    | some (kd, e1) => match keyD kd with
      | some ky => match e1[i]? with
        | some (.dk kvs) => match getD kvs ky with
          | some d => some (d, e1)
          | none => none
        | _ => none
      | none => none
    | none => none
  | _ => none
theorem d_dget {i : Nat} {o ix : Expr} {pos : Pos} {fk : EM D} (hu : X.A.units + 1 < cLine) (ho : PE X o (tVar i)) (hk : PE X ix (tD X.K Tb fk)) (hs : NoSl ix := by intro _ _; rfl) : PE X (.Subscript o ix pos) (tD X.K Tb (eDget i fk)) := pe_imp (pe_dget hu ho hk hs) fun σ H Q ⟨env, d, env', F, hf, R, k⟩ => by
  unfold eDget at hf
  split at hf
  · rename_i kvs0 h0
    split at hf
    · rename_i kd e1 h1
      split at hf
      · rename_i ky hky
        split at hf
        · rename_i kvs h2
          split at hf
          · rename_i d' h3
            cases hf
            obtain ⟨p, ws0, hs0, f0, l0, _⟩ := R.dk h0
            refine ⟨.ref p, hs0, env, _, _, F, h1, R, fun F1 H1 v S1 D1 => ?_⟩
            obtain ⟨p', ws, hs1, f1, l1, d1⟩ := S1.rs.dk h2
            rw [hs0] at hs1
            cases hs1
            have q := DtK.val (k := ky) d1
            rw [h3] at q
            obtain ⟨v', q1, q2⟩ := q
            refine ⟨p, v', rfl, ?_, k F1 H1 v' S1 q2⟩
            rw [key_val D1 hky, ← q1]
            exact DGet.k l1
          · cases hf
        · cases hf
      · cases hf
    · cases hf
  · cases hf
/-- k in d -/
def eDin (i : Nat) (fk : EM D) : EM D := fun env => match fk env with
  | some (kd, e1) => match keyD kd with
    | some ky => match e1[i]? with
      | some (.dk kvs) => some (.bool (getD kvs ky).isSome, e1)
      | _ => none
    | none => none
  | none => none
theorem din_reading {i : Nat} {fk : EM D} {σ : L2.St} {H : Hp} {Q : VK} (h : tD X.K Tb (eDin i fk) σ H Q) : tDIn (tD X.K Tb fk) (tVar i) σ H Q := by
  obtain ⟨env, d, env', F, hf, R, k⟩ := h
  unfold eDin at hf
  split at hf
  · rename_i kd e1 h1
    split at hf
    · rename_i ky hky
      split at hf
      · rename_i kvs h2
        cases hf
        refine ⟨env, _, _, F, h1, R, fun F1 H1 v S1 D1 => ?_⟩
        obtain ⟨p, ws, hs1, f1, l1, d1⟩ := S1.rs.dk h2
        refine ⟨.ref p, hs1, p, valV ws ky, rfl, ?_, ?_⟩
        · rw [key_val D1 hky]
          exact DGet.k l1
        · have q := DtK.val (k := ky) d1
          have e : (valV ws ky).isSome = (getD kvs ky).isSome := by
            split at q
            · rename_i d3 e3
              obtain ⟨v', q1, q2⟩ := q
              rw [q1, e3]; rfl
            · rename_i e3
              rw [q, e3]; rfl
          rw [e]
          exact k F1 H1 _ S1 (.bl _)
      · cases hf
    · cases hf
  · cases hf
end
end DL

namespace DL
open PySem PySem.Spec PyProof.Rows L2 GxR RT
/-! ### list(reversed(xs)) -/
section
variable {prog : Program} {w : World} {A : Around} {E : Value → Shared → Prop} {s : Shared}
theorem rev_init {it l : Addr} {items : Array Value} {R : Result → Shared → Prop} (hh : A.handled = none) (S : Addr) (hSi : S ≠ it) (hSl : S ≠ l) (hit : s.heap.IsRevIter it l ((items.size : Int) - 1)) (hl : s.heap.IsList l items) (hne : l ≠ it) (hn : items.size ≤ sizeLine)
    (hS : s.heap.get? S = some { cls := .type "list", data := .seq #[] })
    (hR : ∀ h' tk acc' c', (∀ b o, b ≠ S → b ≠ it → s.heap.get? b = some o → h'.get? b = some o) → h'.get? S = some { cls := .type "list", dict := none, data := .seq acc' c', slots := #[] } → ItemsOf (fun i v => items[items.size - 1 - i]? = some v) acc' items.size → R (.ok (.ret .none)) { s with heap := h', toks := tk }) :
    wpAny (model prog w) A.in1 (Builtin.«list.__init__» ⟨[.ref S, .ref it], []⟩)
      (fun fin s' => match fin with | .done f => R (.ok f) s' | .again c' => c'.quiet = true ∧ codeAny (model prog w) A c' R s') (fun e s' => R (.error e) s') s := by
  have W := (Walks.listRev (prog := prog) (w := w) (A := A.in1) hh it l hne items).toS
  have hSf : S ∉ [it, l] := by simp only [List.mem_cons, List.not_mem_nil, or_false, not_or]; exact ⟨hSi, hSl⟩
  show wpAny _ _ (do let old ← Builtin.List.listItems (.ref S); Builtin.List.listUpdate (.ref S) (fun _ => #[]); letGo old.toList.reverse; Builtin.List.listExtendWith (.ref S) (.ref it) .none) _ _ s
  refine wpAny_bind ?_
  unfold Builtin.List.listItems
  refine wpAny_bind (wpAny_seqItems hS rfl (wpAny_pure ?_))
  show wpAny _ _ (updateSeq S (fun _ => #[]) >>= fun _ => letGo (#[] : Array Value).toList.reverse >>= fun _ => Builtin.List.listExtendWith (.ref S) (.ref it) .none) _ _ s
  refine wpAny_bind (wpAny_updateSeq hS rfl ?_)
  have hS₂ := Heap.get?_update_self (Obj.mapSeq (fun _ => (#[] : Array Value))) hS rfl
  have oth : ∀ b o, b ≠ S → s.heap.get? b = some o → (s.heap.update S (Obj.mapSeq (fun _ => (#[] : Array Value)))).get? b = some o :=
    fun b o hb e => (Heap.get?_update_other _ _ (Ne.symm hb)).trans e
  refine wpAny_bind (wpAny_letGo ?_)
  have hit1 : (s.heap.update S (Obj.mapSeq (fun _ => (#[] : Array Value)))).IsRevIter it l ((items.size : Int) - 1) := hit.at fun o e => oth _ _ hSi.symm e
  have hl1 : (s.heap.update S (Obj.mapSeq (fun _ => (#[] : Array Value)))).IsList l items := by
    obtain ⟨o, e, r⟩ := hl
    exact ⟨o, oth _ _ hSl.symm e, r⟩
  have hT : ({ s with heap := s.heap.update S (Obj.mapSeq (fun _ => (#[] : Array Value))) } : Shared).TypeIs (.ref it) "list_reverseiterator" := Heap.IsRevIter.typeIs (s := { s with heap := s.heap.update S (Obj.mapSeq (fun _ => (#[] : Array Value))) }) hit1
  have h1 : Builtin.List.listSameRef (.ref S) (.ref it) = false := by simp [Builtin.List.listSameRef, hSi]
  unfold Builtin.List.listExtendWith
  refine wpAny_bind (wpAny_typeOf hT ?_)
  rw [if_neg (by rw [h1]; decide)]
  refine wpAny_bind (wpAny_pyIter_revIter (s := { s with heap := s.heap.update S (Obj.mapSeq (fun _ => (#[] : Array Value))) }) hit1 ?_)
  refine wpAny_bind (wpAny_holding ?_)
  unfold Builtin.List.listLengthHint
  refine wpAny_bind (wpAny_specialOf hT nolen_lri ?_)
  show wpAny _ A.in1 (specialOf (Value.ref it) (Str.ofString "__length_hint__") >>= _) _ _ _
  refine wpAny_bind (wpAny_specialOf hT hint_lri ?_)
  generalize hid : ("list_reverseiterator.__length_hint__" : String) = id0
  wp_delta
  rw [show splitId id0 = some ("list_reverseiterator", "__length_hint__") from by subst hid; decide +kernel]
  subst hid
  refine wpAny_bind (wpAny_isInstance (b := true) hT (by rw [isSubtype_type]; kernel_rfl) ?_)
  refine wpAny_pure ?_
  rw [if_neg (by decide)]
  have e0 : ((items.size : Nat) : Int) - 1 - ((0 : Nat) : Int) = (items.size : Int) - 1 := by omega
  refine wpAny_pure ⟨plainId_quiet F.plain_extend_loop _, codeAny_extend_loopS W hn _ hSf _ items.size 0 _ _ _ rfl (Nat.zero_le _) ⟨Nat.zero_le _, by rw [e0]; exact hit1, hl1⟩ hS₂ (ItemsOf.nil _) fun s' acc' c' hm hS' hacc => ?_⟩
  rw [Moved.eq_with hm]
  refine hR s'.heap s'.toks acc' c' (fun b o hb hb2 e => hm.heap b o (fun hmem => ?_) (oth b o hb e)) hS' hacc
  rcases List.mem_cons.mp hmem with e' | hmem
  · exact hb e'
  · exact hb2 (List.mem_singleton.mp hmem)
theorem call_list_revIter {it l : Addr} {items : Array Value} {Q : Value → Shared → Prop} (hh : A.handled = none) (hit : s.heap.IsRevIter it l ((items.size : Int) - 1)) (hl : s.heap.IsList l items) (hne : l ≠ it) (hn : items.size ≤ sizeLine)
    (hQ : ∀ h' tk acc' c', (∀ b o, b ≠ it → s.heap.get? b = some o → h'.get? b = some o) → h'.get? s.heap.objs.size = some { cls := .type "list", dict := none, data := .seq acc' c', slots := #[] } → ItemsOf (fun i v => items[items.size - 1 - i]? = some v) acc' items.size → Q (.ref s.heap.objs.size) { s with heap := h', toks := tk }) :
    wpAny (model prog w) A (call (.type "list") [.ref it]) Q E s := by
  obtain ⟨oi, hoi, _⟩ := id hit
  obtain ⟨ol, hol, _⟩ := id hl
  refine callType_codes (Q₁ := fun obj s₁ => obj = .ref s.heap.objs.size ∧ s₁ = { s with heap := s.heap.push { cls := .type "list", data := .seq #[] } }) F.called_list (F.typeCall_list_1 _) F.entry_list_init
    (code_list_new _ ⟨rfl, rfl⟩) fun obj s₁ h₁ => ?_
  obtain ⟨rfl, rfl⟩ := h₁
  have hS : (s.heap.push { cls := .type "list", data := .seq #[] }).get? s.heap.objs.size = some { cls := .type "list", data := .seq #[] } := Heap.get?_push_size _ rfl
  refine ⟨⟨_, hS, rfl⟩, F.args_list_init_2 _ _, rev_init (A := A.in1) (s := { s with heap := s.heap.push { cls := .type "list", data := .seq #[] } }) hh _ (Nat.ne_of_gt (Heap.lt_size hoi)) (Nat.ne_of_gt (Heap.lt_size hol)) (hit.at fun o e => Heap.get?_push_of_some _ e) (hl.push _) hne hn hS (fun h' tk acc' c' hk hS' hacc => ?_)⟩
  exact ⟨rfl, hQ h' tk acc' c' (fun b o hb e => hk b o (Nat.ne_of_lt (Heap.lt_size e)) hb (Heap.get?_push_of_some _ e)) hS' hacc⟩
end
/-- list(reversed(x)), x a list: a new list -/
def tListRev (K : PySem.W.Frag) (te : TE) : TE := fun σ H Q => te σ H fun v H1 => ∃ (a : Addr) (xs : List V), v = .ref a ∧ SqL K H1 a xs ∧ ∀ q, H1 q = none → Q (.ref q) (upd H1 q (.lst xs.reverse))
section
variable {X : Cx} {K : PySem.W.Frag} {Tb : List Addr}
theorem pe_listRev {e : Expr} {te : TE} {p p2 pos pos2 : Pos} (hc : X.calm = true) (hg : Gl X "list") (hm : X.mg "list" = none) (hg2 : Gl X "reversed") (hm2 : X.mg "reversed" = none) (he : PE X e te)
    (hv : bootBuiltins "list" = some (.type "list") := by decide +kernel)
    (hs : starEach [e] X.env = (false, eval e X.env) :: starEach [] X.env := by rfl)
    (hs2 : starEach [.Call (.Name "reversed" p2) [e] [] pos2] X.env = (false, eval (.Call (.Name "reversed" p2) [e] [] pos2) X.env) :: starEach [] X.env := by rfl) :
    PE X (.Call (.Name "list" p) [.Call (.Name "reversed" p2) [e] [] pos2] [] pos) (tListRev X.K te) := by
  refine ⟨fun pins s σ H Q I h => ?_⟩
  refine Call_ (ld_blt I hg hm hv (PyProof.Rows.callWith_type1 (args_cons (Call_ (ld_blt I hg2 hm2 PyProof.Rows.boot_reversed (PyProof.Rows.callWith_type1 (args_cons (thn (he.run pins s σ H _ I h) fun u s1 ⟨v, H1, I1, r1, q1⟩ => args_nil ?_) hs) hs rfl))) hs2) hs2 rfl))
  obtain ⟨a, xs, ev, hq, q⟩ := q1
  subst ev
  obtain rfl : u = Value.ref a := r1
  obtain ⟨its, rv, p', hz⟩ := I1.list hq
  refine call_reversed_list p'.isList (args_nil ?_)
  have k0 : ∀ b o, s1.heap.get? b = some o → (s1.heap.push (revObj a ((its.toArray.size : Int) - 1))).get? b = some o := fun b o e => Heap.get?_push_of_some _ e
  have I2 : Inv X pins σ H1 { s1 with heap := s1.heap.push (revObj a ((its.toArray.size : Int) - 1)) } := I1.kept (t' := s1.toks) k0
  obtain ⟨f0, f1, f2, f3, f4, f5⟩ := I1.fpOk (H' := H1) (b := s1.heap.objs.size) (Nat.le_refl _) (I1.hok.fresh (Nat.le_refl _))
  have hl := p'.isList
  obtain ⟨ol, hol, _⟩ := id hl
  have hne : a ≠ s1.heap.objs.size := Nat.ne_of_lt (Heap.lt_size hol)
  have hn : its.toArray.size ≤ sizeLine := by rw [List.size_toArray, ← rv.length]; exact hz
  refine call_list_revIter (s := { s1 with heap := s1.heap.push (revObj a ((its.toArray.size : Int) - 1)) }) (I1.ok.hd hc) ⟨_, Heap.get?_push_size _ rfl, rfl, rfl⟩ (hl.push _) hne hn fun h' tk acc c hk hS hi => ?_
  have hnew : (s1.heap.push (revObj a ((its.toArray.size : Int) - 1))).objs.size = s1.heap.objs.size + 1 := by simp [Heap.push]
  rw [hnew] at hS ⊢
  refine ⟨.ref (s1.heap.objs.size + 1), upd H1 (s1.heap.objs.size + 1) (.lst xs.reverse), I1.laid (t' := tk) (fun b o e => hk b o (Nat.ne_of_lt (Heap.lt_size e)) (k0 b o e)) (Nat.le_succ _) (show ObjOk X.prog X.w _ _ _ (.lst xs.reverse) from ⟨by rw [List.length_reverse]; exact hz, acc.toList, c, vals_rev rv hi, ?_⟩), rfl, q _ (I1.hok.fresh (Nat.le_succ _))⟩
  rw [Array.toArray_toList]
  exact hS
/-- .. of an own list -/
def eRevO (i : Nat) : EM (List D) := fun env => match env[i]? with
  | some (.ow _ ds) => some (ds.reverse, env)
  | _ => none
theorem d_revO {i : Nat} {e : Expr} {p p2 pos pos2 : Pos} (hc : X.calm = true) (hg : Gl X "list") (hm : X.mg "list" = none) (hg2 : Gl X "reversed") (hm2 : X.mg "reversed" = none) (ho : PE X e (tVar i))
    (hs : starEach [e] X.env = (false, eval e X.env) :: starEach [] X.env := by rfl)
    (hs2 : starEach [.Call (.Name "reversed" p2) [e] [] pos2] X.env = (false, eval (.Call (.Name "reversed" p2) [e] [] pos2) X.env) :: starEach [] X.env := by rfl) :
    PE X (.Call (.Name "list" p) [.Call (.Name "reversed" p2) [e] [] pos2] [] pos) (tNew X.K Tb (eRevO i)) := pe_imp (pe_listRev hc hg hm hg2 hm2 ho (by decide +kernel) hs hs2) fun σ H Q ⟨env, ds, env', F, hf, R, k⟩ => by
  unfold eRevO at hf
  split at hf
  · rename_i tg es h0
    cases hf
    obtain ⟨p, vs, hs0, f0, l0, d0⟩ := R.ow h0
    refine ⟨.ref p, hs0, p, vs, rfl, SqL.of l0, fun q hq => ?_⟩
    obtain ⟨S, no⟩ := RS.alloc R (o := .lst vs.reverse) hq nt_lst
    exact k F _ q vs.reverse S hq (lay_none R hq) upd_same no (DtAll.reverse d0)
  · cases hf
end
end DL

namespace DL
open PySem PySem.Spec PyProof.Rows L2 GxR
section
variable {X : Cx} {K : PySem.W.Frag} {Tb : List Addr}
/-! ### the script: a list that nobody writes -/
def eLenS (i : Nat) : EM D := fun env => match env[i]? with
  | some (.sq ds) => some (.int ds.length, env)
  | _ => none
theorem d_lenS {i : Nat} {e : Expr} {p pos : Pos} (ho : PE X e (tVar i)) (hg : Gl X "len") (hm : X.mg "len" = none) (hv : bootBuiltins "len" = some (.builtin "len") := by decide +kernel)
    (he : starEach [e] X.env = (false, eval e X.env) :: starEach [] X.env := by rfl) (hpl : (backTo pos (starEach [] X.env)).any (·.1) = false := by rfl) : PE X (.Call (.Name "len" p) [e] [] pos) (tD X.K Tb (eLenS i)) :=
  pe_imp (pe_callB call_len_seq hg hm hv (pa_cons ho pa_nil he) (by decide) (by decide) he hpl) fun σ H Q ⟨env, d, env', F, hf, R, k⟩ => by
    unfold eLenS at hf
    split at hf
    · rename_i ds h0
      cases hf
      obtain ⟨p, vs, hs0, l0, d0⟩ := R.sq h0
      exact ⟨.ref p, hs0, p, vs, rfl, .inl (SqL.mono R.wf.sub l0), k F H _ (Stp.refl R) (by rw [DtAll.length d0]; exact .int _)⟩
    · cases hf
def eIxS (i : Nat) (b : EM D) : EM D := fun env => match env[i]? with
  | some (.sq ds) => match b env with
    | some (.int j, e1) => match atI ds j with
      | some d => some (d, e1)
      | none => none
    | _ => none
  | _ => none
theorem d_ixS {i : Nat} {a b : Expr} {pos : Pos} {fb : EM D} (ha : PE X a (tVar i)) (hb : PE X b (tD X.K Tb fb)) (hs : PlainIx b := by intro _ _; rfl) : PE X (.Subscript a b pos) (tD X.K Tb (eIxS i fb)) :=
  pe_imp (pe_ix ix_list ha hb hs) fun σ H Q ⟨env, d, env', F, hf, R, k⟩ => by
    unfold eIxS at hf
    split at hf
    · rename_i ds h0
      obtain ⟨p, vs, hs0, l0, d0⟩ := R.sq h0
      split at hf
      · rename_i j e1 h1
        split at hf
        · rename_i d' h3
          cases hf
          refine ⟨.ref p, hs0, ⟨env, _, _, F, h1, R, fun F1 H1 v S1 D1 => ?_⟩⟩
          obtain ⟨w, h4, h5⟩ := atI_dt d0 h3
          exact ⟨p, vs, j, w, rfl, Dt.int_inv D1, SqL.mono S1.rs.wf.sub (SqL.mono S1.mono l0), h4, k F1 H1 w S1 (Dt.mono S1.mono h5)⟩
        · cases hf
      · cases hf
    · cases hf
theorem jok_sq {F0 : Hp} {a : Addr} {vs : List V} {ds : List D} (h : SqL K F0 a vs) (hd : DtAll K F0 vs ds) : JOk K Tb (Itl K a) ds F0 := fun F H env σ R m i => by
  have hq : SqL K H a vs := SqL.mono R.wf.sub (SqL.mono m h)
  refine ⟨fun d e => ?_, fun hi => ⟨vs, hq, by rw [DtAll.length hd]; exact hi⟩⟩
  obtain ⟨v, h1, h2⟩ := DtAll.get hd e
  refine ⟨⟨vs, v, hq, h1⟩, fun x H' ⟨e1, e2⟩ => ?_⟩
  subst e1
  have := e2 vs hq
  rw [h1] at this
  cases this
  exact ⟨F, Stp.refl R, Dt.mono m h2⟩
def iSq (i : Nat) : EM (List D) := fun env => match env[i]? with
  | some (.sq ds) => some (ds, env)
  | _ => none
theorem d_iterS {tg l : Expr} {i : Nat} (ho : PE X l (tVar i)) : PI X tg l (tDI X.K Tb (iSq i)) := pi_imp (pi_any ho) fun σ H R ⟨env, ds, env', F, hf, RR, k⟩ => by
  unfold iSq at hf
  split at hf
  · rename_i es h0
    cases hf
    obtain ⟨p, vs, hs0, l0, d0⟩ := RR.sq h0
    exact ⟨.ref p, hs0, .inl ⟨p, rfl, ⟨vs, SqL.mono RR.wf.sub l0⟩, k F H _ (Stp.refl RR) (jok_sq l0 d0)⟩⟩
  · cases hf

/-! ### bodies that end in a new list -/
abbrev SN := Ev → (List D → Prop) → Prop
def tDSN (K : PySem.W.Frag) (Tb : List Addr) (s : SN) : TS := fun E σ H => ∃ env F Φ, s env Φ ∧ RS K Tb F H env σ ∧ ∀ ds, Φ ds → ∀ F' H' env' σ' p vs, Stp K Tb F H env σ F' H' env' σ' → H p = none → F' p = none → H' p = some (.lst vs) → ¬ Owned env' σ' p → DtAll K F' vs ds → E.rt (.ref p) H'
def nSeq (s : SM) (t : SN) : SN := fun env Φ => s env fun fl => match fl with
  | .nx e => t e Φ
  | _ => False
def nRet (f : EM (List D)) : SN := fun env Φ => match f env with
  | some (ds, _) => Φ ds
  | none => False
variable {st : Stmt} {rest : List Stmt} {s : SM} {t : SN} {e : Expr} {pos : Pos} {f : EM (List D)}
theorem d_ncons (h1 : PS X st (tDS X.K Tb s)) (h2 : PSs X rest (tDSN X.K Tb t)) : PSs X (st :: rest) (tDSN X.K Tb (nSeq s t)) := pss_imp (pss_cons h1 h2) fun σ H E ⟨env, F, Φ, h, R, k⟩ => by
  refine ⟨env, F, _, h, R, fun fl hfl F1 H1 σ1 S1 => ?_⟩
  cases fl with
  | nx e =>
    refine ⟨e, F1, Φ, hfl, S1.rs, fun ds hd F2 H2 env2 σ2 p vs S2 hp hF hl no hv => ?_⟩
    exact k ds hd F2 H2 env2 σ2 p vs (S1.trans S2) (S1.dom p hp) hF hl no hv
  | rt d e => exact hfl.elim
  | bk e => exact hfl.elim
  | ct e => exact hfl.elim
theorem d_nret (h : PE X e (tNew X.K Tb f)) : PSs X [.Return (some e) pos] (tDSN X.K Tb (nRet f)) := pss_imp (pss_one (ps_ret h)) fun σ H E ⟨env, F, Φ, hf, R, k⟩ => by
  unfold nRet at hf
  split at hf
  · rename_i ds e1 h1
    exact ⟨env, ds, e1, F, h1, R, fun F' H' p vs S hp hF hl no hv => k ds hf F' H' e1 σ p vs S hp hF hl no hv⟩
  · exact hf.elim
end
def IntL (ds : List D) : Prop := ∃ l : List Int, ds = l.map .int
/-- a def: a script of ints in, a new list of ints out -/
def spSN (K : PySem.W.Frag) (Tb : List Addr) (Pn : List Int → Prop) : Sp := fun vs H Q _ => ∃ F a ns, vs = [.ref a] ∧ Wf Tb F H ∧ SqL K F a (ns.map V.int) ∧ Pn ns ∧
  ∀ F' H' p ws ds, IntL ds → FStp Tb (fun _ => False) F H F' H' → H p = none → F' p = none → H' p = some (.lst ws) → DtAll K F' ws ds → Q (.ref p) H'
def envS (N : List Str) (ns : List Int) : Ev := .sq (ns.map .int) :: List.replicate (N.length - 1) .un
theorem envS_at {N : List Str} {ns : List Int} {i : Nat} {x : SV} (h : (envS N ns)[i]? = some x) : (i = 0 ∧ x = .sq (ns.map .int)) ∨ (0 < i ∧ x = .un) := by
  unfold envS at h
  cases i with
  | zero => exact .inl ⟨rfl, (Option.some.inj h).symm⟩
  | succ j =>
    rw [List.getElem?_cons_succ, List.getElem?_replicate] at h
    split at h
    · exact .inr ⟨Nat.succ_pos _, (Option.some.inj h).symm⟩
    · cases h
section
variable {K : PySem.W.Frag} {Tb : List Addr} {P : Program} {w : World} {mg : Str → Option Value} {base : Heap}
theorem rs_startS {N : List Str} {F H : Hp} {a : Addr} {ns : List Int} (wf : Wf Tb F H) (hq : SqL K F a (ns.map V.int)) (hn : 1 ≤ N.length) : RS K Tb F H (envS N ns) (L2.start N [.ref a]) := by
  have hle : (envS N ns).length = (L2.start N [.ref a]).length := by
    unfold envS L2.start
    simp only [List.length_cons, List.length_append, List.length_map, List.length_replicate, List.length_nil]
    omega
  refine ⟨wf, hle, fun i x e => ?_, fun i j x y e1 e2 o1 o2 _ => ?_⟩
  · rcases envS_at e with ⟨rfl, rfl⟩ | ⟨h1, rfl⟩
    · exact ⟨some (.ref a), by rw [start_at]; rfl, _, hq, DtAll.ints ns⟩
    · exact ⟨_, List.getElem?_eq_getElem (by rw [← hle]; exact (List.getElem?_eq_some_iff.mp e).1), trivial⟩
  · rcases envS_at e1 with ⟨_, rfl⟩ | ⟨_, rfl⟩ <;> cases o1
theorem noOwnS {N : List Str} {ns : List Int} {σ : L2.St} {b : Addr} : ¬ Owned (envS N ns) σ b := fun ⟨i, x, e, o, _⟩ => by
  rcases envS_at e with ⟨_, rfl⟩ | ⟨_, rfl⟩ <;> cases o
theorem fn_SN {x qual : Str} {st : Stmt} {f c : Addr} {fd : FuncData} {N : List Str} {px : Str} {k : Nat} {Pn : List Int → Prop} {sn : SN} (F : FunG K x qual st f fd c) (S : FnScope N [px] (defScope st))
    (body : ∀ (A : Around) (outer : List Env) (s : Shared) (H : Hp) (E : XK), Room k (A.deeper (envOfC qual (defScope st) s.heap.objs.size f (.ref c))) → PSs (bcx P w K mg base N qual (defScope st) f c A outer s H E) (defBody st) (tDSN K Tb sn))
    (sem : ∀ ns, Pn ns → sn (envS N ns) IntL) : FnOk P w K mg base CX0 (k + 1) f fd [px] (spSN K Tb Pn) := by
  obtain ⟨oc, od, kV, doc, pm, an, ct, osl, rfl, lk, hcd⟩ := F.ex
  refine fn_of lk hcd S (fun vs H Q E ⟨F, a, ns, e, _⟩ => by rw [e]; rfl) fun A outer s H vs Q E hr ⟨F0, a, ns, e, wf, hq, hm, kk⟩ => ?_
  subst e
  have hN : 1 ≤ N.length := by have := congrArg List.length S.pre; rw [List.length_take] at this; simp at this; omega
  refine ⟨_, PSs.nox (body A outer s H E hr), ⟨envS N ns, F0, _, sem ns hm, rs_startS wf hq hN, fun es he F' H' env' σ' p ws S' hp hF hl no hd => ?_⟩⟩
  exact kk F' H' p ws es he ⟨S'.mono, fun b o e nt _ => S'.keep b o e nt noOwnS, S'.dom, S'.rs.wf⟩ hp hF hl hd
/-- x = f(script): an own list -/
def sDraws (i j : Nat) (Pn : List Int → Prop) : SM := fun env Φ => ∃ ns, env[i]? = some (.sq (ns.map .int)) ∧ Pn ns ∧ j < env.length ∧ ∀ l : List Int, Φ (.nx (env.set j (.ow none (l.map .int))))
end
section
variable {X : Cx} {Tb : List Addr} {k : Nat} {f : Addr} {fd : FuncData} {px x y : Str} {p p2 pos pos' : Pos} {e : Expr}
theorem ints_inv {F : Hp} {K : PySem.W.Frag} : ∀ {vs : List V} {ns : List Int}, DtAll K F vs (ns.map PyData.int) → vs = ns.map V.int
  | _, [], h => by cases h; rfl
  | _, n :: ns, .cons a t => by rw [Dt.int_inv a, ints_inv t]; rfl
theorem d_draws {i j : Nat} {Pn : List Int → Prop} (G : FnOk X.prog X.w X.K X.mg X.base CX0 k f fd [px] (spSN X.K Tb Pn)) (hr : Room k X.A) (hg : Gl X x) (hm : X.mg x = some (.ref f)) (hk : PySem.W.keepIn X.K (.ref f) = true) (hb : Binds X.K fd [px] [])
    (ho : PE X e (tVar i)) (hN : X.N.Nodup) (hj : X.N[j]? = some y) (hx : Loc X.env.scope y) (hdb : (x == ("__debug__" : Str)) = false := by decide)
    (he : starEach [e] X.env = (false, eval e X.env) :: starEach [] X.env := by rfl) (hpl : (backTo p2 (starEach [] X.env)).any (·.1) = false := by rfl)
    (hs : swapsWith (.Call (.Name x p) [e] [] p2) (some (.Name y pos')) pos.line X.env = pure false := by rfl) (hf : X.fn y = true ∨ X.env.scope.names.lookup y = some .local := by first | exact .inl rfl | exact .inr rfl | assumption) :
    PS X (.Assign [.Name y pos'] (.Call (.Name x p) [e] [] p2) pos) (tDS X.K Tb (sDraws i j Pn)) :=
  ps_imp (ps_set hN hj hx (pe_call G hr hg hm hk hb .nil pass0 (pa_cons ho pa_nil he) hdb he hpl) hs hf) fun σ H E ⟨env, F, Φ, h, R, k⟩ => by
    obtain ⟨ns, h0, h1, h2, h3⟩ := h
    obtain ⟨a, vs, hs0, l0, d0⟩ := R.sq h0
    obtain rfl := ints_inv d0
    refine ⟨.ref a, hs0, F, a, ns, rfl, R.wf, l0, h1, fun F' H' q ws ds hds fs hp hF hl hd => ?_⟩
    obtain ⟨l, rfl⟩ := hds
    have S1 := RS.fstp R fs
    have no : ¬ Owned env σ q := fun o => by
      obtain ⟨i, x, e, oo, hs⟩ := o
      have := (R.ownF ⟨i, x, e, oo, hs⟩).2
      exact this hp
    exact k _ (h3 l) F' H' _ (Stp.own S1 h2 hp hF hl no hd)
end
/-! ### the law's own def -/
/-- a script in, True out -/
def spLaw (K : PySem.W.Frag) (Tb : List Addr) (Pn : List Int → Prop) : Sp := fun vs H Q _ => ∃ F a ns, vs = [.ref a] ∧ Wf Tb F H ∧ SqL K F a (ns.map V.int) ∧ Pn ns ∧ ∀ H', Q (.bl true) H'
section
variable {K : PySem.W.Frag} {Tb : List Addr} {P : Program} {w : World} {mg : Str → Option Value} {base : Heap}
theorem fn_law {x qual : Str} {st : Stmt} {f c : Addr} {fd : FuncData} {N : List Str} {px : Str} {k : Nat} {Pn : List Int → Prop} {sm : SM} (F : FunG K x qual st f fd c) (S : FnScope N [px] (defScope st))
    (body : ∀ (A : Around) (outer : List Env) (s : Shared) (H : Hp) (E : XK), Room k (A.deeper (envOfC qual (defScope st) s.heap.objs.size f (.ref c))) → PSs (bcx P w K mg base N qual (defScope st) f c A outer s H E) (defBody st) (tDS K Tb sm))
    (sem : ∀ ns, Pn ns → sm (envS N ns) (rets (.bool true))) : FnOk P w K mg base CX0 (k + 1) f fd [px] (spLaw K Tb Pn) := by
  obtain ⟨oc, od, kV, doc, pm, an, ct, osl, rfl, lk, hcd⟩ := F.ex
  refine fn_of lk hcd S (fun vs H Q E ⟨F, a, ns, e, _⟩ => by rw [e]; rfl) fun A outer s H vs Q E hr ⟨F0, a, ns, e, wf, hq, hm, kk⟩ => ?_
  subst e
  have hN : 1 ≤ N.length := by have := congrArg List.length S.pre; rw [List.length_take] at this; simp at this; omega
  refine ⟨_, PSs.nox (body A outer s H E hr), ⟨envS N ns, F0, _, sem ns hm, rs_startS wf hq hN, fun fl hfl F' H' σ' S' => ?_⟩⟩
  cases fl with
  | nx e => cases hfl
  | rt d' e =>
    have hd' : d' = .bool true := hfl
    subst hd'
    intro v hv
    rw [Dt.bl_inv hv]
    exact kk H'
  | bk e => exact hfl.elim
  | ct e => exact hfl.elim
end
end DL

namespace DL
open PySem PySem.Spec PyProof.Rows L2 GxR
section
variable {X : Cx} {K : PySem.W.Frag} {Tb : List Addr}
theorem _root_.L2.Room.u64 {k : Nat} {A : Around} (r : Room k A) : A.units + 64 < cLine := r.units
theorem _root_.L2.Room.u65 {k : Nat} {A : Around} (r : Room k A) : A.units + 65 < cLine := by have := r.un; omega
theorem _root_.L2.Room.u1 {k : Nat} {A : Around} (r : Room k A) : A.units + 1 < cLine := by have := r.un; omega
/-! ### ** -/
def dPow := d2I fun i j => if 0 ≤ j ∧ j ≤ 1000000 ∧ i.natAbs < 2 ^ 64 then some (.int (i ^ j.toNat)) else none
theorem o_pow : OpD X (binaryOp .Pow) dPow := opD_of op_pow fun x y H Q ⟨F, d, e, z, m, dx, dy, hg, k⟩ => by
  obtain ⟨i, j, rfl, rfl, hg2⟩ := d2I_some hg
  split at hg2
  · rename_i hc
    cases hg2
    exact ⟨_, _, Dt.int_inv dx, Dt.int_inv dy, hc, k F H _ (.inl ⟨rfl, rfl⟩) (.int _)⟩
  · cases hg2
/-! ### in a tuple of ints (in a list: dIn) -/
def dInA : D → D → Option D
  | .int i, .tuple ds => match intsOf ds with
    | some is => some (.bool (is.any fun j => j == i))
    | none => none
  | d, e => dIn d e
theorem any_ints (i : Int) : ∀ is : List Int, inV (.int i) (is.map V.int) = is.any fun j => j == i
  | [] => rfl
  | j :: r => by
    have ih := any_ints i r
    unfold inV at ih ⊢
    rw [List.map_cons, List.any_cons, List.any_cons, ih]
    rfl
theorem flat_ints : ∀ is : List Int, (is.map V.int).all flatV = true
  | [] => rfl
  | j :: r => by rw [List.map_cons, List.all_cons, flat_ints r]; rfl
theorem o_inA (hu : X.A.units + 65 < cLine) : OpD X (compareOp .In) dInA := opD_of ((op_inD hu).or op_in_seq) fun x y H Q ⟨F, d, e, z, m, dx, dy, hg, k⟩ => by
  unfold dInA at hg
  split at hg
  · split at hg
    · rename_i is hi
      cases hg
      obtain ⟨a, xs, rfl, h1, h2⟩ := Dt.tup_inv dy
      have e := ints_vals h2 hi
      subst e
      refine .inr ⟨a, _, rfl, .inr (SqT.mono m h1), by rw [Dt.int_inv dx]; rfl, flat_ints _, ?_⟩
      rw [Dt.int_inv dx, any_ints]
      exact k F H _ (.inl ⟨rfl, rfl⟩) (.bl _)
    · cases hg
  · unfold dIn at hg
    split at hg
    · split at hg
      · rename_i hc
        cases hg
        rw [Bool.and_eq_true] at hc
        exact .inl ⟨_, _, (Dt.mono m dx).toDp, (Dt.mono m dy).toDp, hc.1, hc.2, k F H _ (.inl ⟨rfl, rfl⟩) (.bl _)⟩
      · cases hg
    · cases hg
/-! ### name op= e -/
def sAug (i : Nat) (g : D → D → Option D) (f : EM D) : SM := fun env Φ => match env[i]? with
  | some (.fz x) => match f env with
    | some (y, e1) => match g x y with
      | some z => if i < e1.length then Φ (.nx (e1.set i (.fz z))) else False
      | none => False
    | none => False
  | _ => False
theorem ip_of {op : Operator} {r : R2} (h : OpR X (inplaceOp op) r) : PIp X op r := fun pins s σ H x y v u Q I r1 r2 q => h pins s σ H x y v u Q I r1 r2 q
theorem d_saug {i : Nat} {x : Str} {e : Expr} {f : EM D} {g : D → D → Option D} {op : Operator} {pos pos' : Pos} (hN : X.N.Nodup) (hi : X.N[i]? = some x) (hx : Loc X.env.scope x) (ho : OpD X (inplaceOp op) g) (he : PE X e (tD X.K Tb f))
    (hf : X.fn x = true ∨ X.env.scope.names.lookup x = some .local := by first | exact .inl rfl | exact .inr rfl | assumption) : PS X (.AugAssign (.Name x pos') op e pos) (tDS X.K Tb (sAug i g f)) :=
  ps_imp (ps_aug hN hi hx he (ip_of ho) hf) fun σ H E ⟨env, F, Φ, h, R, k⟩ => by
    unfold sAug at h
    split at h
    · rename_i dx h0
      split at h
      · rename_i dy e1 h1
        split at h
        · rename_i z h2
          split at h
          · rename_i hlt
            obtain ⟨v, hs0, hv⟩ := R.fz h0
            refine ⟨v, hs0, env, dy, e1, F, h1, R, fun F1 H1 u S1 D1 => ?_⟩
            refine ⟨F1, dx, dy, z, S1.rs.wf.sub, Dt.mono S1.mono hv, D1, h2, fun F2 H2 zv l dz => ?_⟩
            have S2 := RS.lay S1.rs l
            exact k _ h F2 H2 _ ((S1.trans S2).trans (RS.store S2.rs hlt dz))
          · exact h.elim
        · exact h.elim
      · exact h.elim
    · exact h.elim
theorem o_iadd : OpD X (inplaceOp .Add) (d2I fun i j => some (.int (i + j))) := opD_of iop_add fun x y H Q ⟨F, d, e, z, m, dx, dy, hg, k⟩ => by
  obtain ⟨i, j, rfl, rfl, hg⟩ := d2I_some hg
  cases hg
  exact ⟨_, _, Dt.int_inv dx, Dt.int_inv dy, k F H _ (.inl ⟨rfl, rfl⟩) (.int _)⟩
theorem o_isub : OpD X (inplaceOp .Sub) dSub := opD_of iop_sub fun x y H Q ⟨F, d, e, z, m, dx, dy, hg, k⟩ => by
  obtain ⟨i, j, rfl, rfl, hg⟩ := d2I_some hg
  cases hg
  exact ⟨_, _, Dt.int_inv dx, Dt.int_inv dy, k F H _ (.inl ⟨rfl, rfl⟩) (.int _)⟩
/-! ### a, b = x, y -/
def sPar (i j : Nat) (f : EM (List D)) : SM := fun env Φ => match f env with
  | some ([d, e], e1) => if i < e1.length ∧ j < e1.length then Φ (.nx ((e1.set i (.fz d)).set j (.fz e))) else False
  | _ => False
theorem d_spar {i j : Nat} {x y : Str} {a b : Expr} {f : EM (List D)} {px py pt : Pos} {kt k2 pt2 pos} (hc : X.calm = true) (hN : X.N.Nodup) (hi : X.N[i]? = some x) (hj : X.N[j]? = some y) (hij : i ≠ j)
    (hx : X.env.scope.names.lookup x = some .local) (hy : X.env.scope.names.lookup y = some .local) (ha : PA X [a, b] (tDA X.K Tb f))
    (hw : swappedStores [.Tuple [.Name x px, .Name y py] kt pt] (.Tuple [a, b] k2 pt2) X.env = pure (some [x, y]))
    (hs : swapsWithSole [.Tuple [.Name x px, .Name y py] kt pt] (.Tuple [a, b] k2 pt2) pos.line X.env = pure false := by rfl) :
    PS X (.Assign [.Tuple [.Name x px, .Name y py] kt pt] (.Tuple [a, b] k2 pt2) pos) (tDS X.K Tb (sPar i j f)) :=
  ps_imp (ps_par hc hN hi hj hij hx hy ha hw hs) fun σ H E ⟨env, F, Φ, h, R, k⟩ => by
    unfold sPar at h
    split at h
    · rename_i d e e1 h1
      split at h
      · rename_i hlt
        refine ⟨env, _, e1, F, h1, R, fun F1 H1 vs S1 D1 => ?_⟩
        obtain ⟨v, u, rfl, hv, hu⟩ := DtAll.two_inv D1
        refine ⟨v, u, rfl, ?_⟩
        have S2 := RS.store S1.rs hlt.1 hv
        have S3 := RS.store S2.rs (by rw [List.length_set]; exact hlt.2) hu
        exact k _ h _ _ _ ((S1.trans S2).trans S3)
      · exact h.elim
    · exact h.elim
theorem d_globI {x : Str} {i : Int} {pos : Pos} (hg : Gl X x) (hm : ∃ t, X.mg x = some (.int i t)) (hdb : (x == ("__debug__" : Str)) = false := by decide) : PE X (.Name x pos) (tD X.K Tb (eC (.int i))) := by
  obtain ⟨t, hm⟩ := hm
  exact d_glob (v := .int i) hg hm ⟨t, rfl⟩ (fun _ => .int i) hdb
theorem d_globS {x : Str} {z : Str} {pos : Pos} (hg : Gl X x) (hm : ∃ t, X.mg x = some (.str z t)) (hdb : (x == ("__debug__" : Str)) = false := by decide) : PE X (.Name x pos) (tD X.K Tb (eC (.str z))) := by
  obtain ⟨t, hm⟩ := hm
  exact d_glob (v := .str z) hg hm ⟨t, rfl⟩ (fun _ => .str z) hdb
/-! ### walking an own list while it stands still: the datum of its own copy -/
end
end DL

namespace DL
open PySem PySem.Spec PyProof.Rows L2 GxR
/-! ### every combinator at its arguments (printed by ap.py) -/
theorem eC_ap (d : D) (env : Ev) : eC d env = (some (d, env)) := (Eq.refl _).trans (Eq.refl _)
theorem eV_ap (i : Nat) (env : Ev) : eV i env = (match env[i]? with
  | some (.fz d) => some (d, env)
  | some (.ow _ ds) => some (.list ds, env.set i (.fz (.list ds)))
  | _ => none) := (Eq.refl _).trans (Eq.refl _)
theorem eB_ap (g : D → D → Option D) (a b : EM D) (env : Ev) : eB g a b env = (match a env with
  | some (x, e1) => match b e1 with
    | some (y, e2) => match g x y with
      | some z => some (z, e2)
      | none => none
    | none => none
  | none => none) := (Eq.refl _).trans (Eq.refl _)
theorem eU_ap (g : D → Option D) (a : EM D) (env : Ev) : eU g a env = (match a env with
  | some (x, e1) => match g x with
    | some z => some (z, e1)
    | none => none
  | none => none) := (Eq.refl _).trans (Eq.refl _)
theorem eAnd_ap (a b : EM D) (env : Ev) : eAnd a b env = (match a env with
  | some (.bool true, e1) => b e1
  | some (.bool false, e1) => some (.bool false, e1)
  | _ => none) := (Eq.refl _).trans (Eq.refl _)
theorem eOr_ap (a b : EM D) (env : Ev) : eOr a b env = (match a env with
  | some (.bool true, e1) => some (.bool true, e1)
  | some (.bool false, e1) => b e1
  | _ => none) := (Eq.refl _).trans (Eq.refl _)
theorem tE_ap (f : EM D) (env : Ev) : tE f env = (match f env with
  | some (.bool b, e) => some (b, e)
  | _ => none) := (Eq.refl _).trans (Eq.refl _)
theorem tAnd_ap (a b : EM Bool) (env : Ev) : tAnd a b env = (match a env with
  | some (true, e1) => b e1
  | some (false, e1) => some (false, e1)
  | none => none) := (Eq.refl _).trans (Eq.refl _)
theorem tOr_ap (a b : EM Bool) (env : Ev) : tOr a b env = (match a env with
  | some (true, e1) => some (true, e1)
  | some (false, e1) => b e1
  | none => none) := (Eq.refl _).trans (Eq.refl _)
theorem tNot_ap (a : EM Bool) (env : Ev) : tNot a env = (match a env with
  | some (b, e1) => some (!b, e1)
  | none => none) := (Eq.refl _).trans (Eq.refl _)
theorem eIf_ap (c : EM Bool) (a b : EM D) (env : Ev) : eIf c a b env = (match c env with
  | some (true, e1) => a e1
  | some (false, e1) => b e1
  | none => none) := (Eq.refl _).trans (Eq.refl _)
theorem eCh_ap (g g' : D → D → Option D) (a b c : EM D) (env : Ev) : eCh g g' a b c env = (match a env with
  | some (x, e1) => match b e1 with
    | some (y, e2) => match g x y with
      | some (.bool true) => match c e2 with
        | some (z, e3) => match g' y z with
          | some w => some (w, e3)
          | none => none
        | none => none
      | some (.bool false) => some (.bool false, e2)
      | _ => none
    | none => none
  | none => none) := (Eq.refl _).trans (Eq.refl _)
theorem eA0_ap (env : Ev) : eA0  env = (some ([], env)) := (Eq.refl _).trans (Eq.refl _)
theorem eAc_ap (a : EM D) (as : EM (List D)) (env : Ev) : eAc a as env = (match a env with
  | some (x, e1) => match as e1 with
    | some (xs, e2) => some (x :: xs, e2)
    | none => none
  | none => none) := (Eq.refl _).trans (Eq.refl _)
theorem eAs_ap (a : EM D) (as : EM (List D)) (env : Ev) : eAs a as env = (match a env with
  | some (x, e1) => match itemsOf x with
    | some ys => match as e1 with
      | some (xs, e2) => some (ys ++ xs, e2)
      | none => none
    | none => none
  | none => none) := (Eq.refl _).trans (Eq.refl _)
theorem eTup_ap (as : EM (List D)) (env : Ev) : eTup as env = (match as env with
  | some (xs, e1) => if xs.length ≤ sizeLine then some (.tuple xs, e1) else none
  | none => none) := (Eq.refl _).trans (Eq.refl _)
theorem eLs_ap (as : EM (List D)) (env : Ev) : eLs as env = (match as env with
  | some (xs, e1) => if xs.length ≤ sizeLine then some (xs, e1) else none
  | none => none) := (Eq.refl _).trans (Eq.refl _)
theorem eOfL_ap (as : EM (List D)) (env : Ev) : eOfL as env = (match as env with
  | some (xs, e1) => some (.list xs, e1)
  | none => none) := (Eq.refl _).trans (Eq.refl _)
theorem eIxO_ap (i : Nat) (b : EM D) (env : Ev) : eIxO i b env = (match env[i]? with
  | some (.ow _ _) => match b env with
    | some (.int j, e1) => match e1[i]? with
      | some (.ow _ ds) => match atI ds j with
        | some d => some (d, e1)
        | none => none
      | _ => none
    | _ => none
  | _ => none) := (Eq.refl _).trans (Eq.refl _)
theorem eP0_ap (env : Ev) : eP0  env = (some (none, env)) := (Eq.refl _).trans (Eq.refl _)
theorem ePs_ap (a : EM D) (env : Ev) : ePs a env = (match a env with
  | some (.int i, e1) => some (some i, e1)
  | _ => none) := (Eq.refl _).trans (Eq.refl _)
theorem eSl_ap (a : EM D) (l h : EM (Option Int)) (env : Ev) : eSl a l h env = (match a env with
  | some (x, e1) => match l e1 with
    | some (lo, e2) => match h e2 with
      | some (hi, e3) => match dSl x lo hi with
        | some z => some (z, e3)
        | none => none
      | none => none
    | none => none
  | none => none) := (Eq.refl _).trans (Eq.refl _)
theorem iW_ap (f : EM D) (env : Ev) : iW f env = (match f env with
  | some (x, e1) => match walkOf x with
    | some xs => some (xs, e1)
    | none => none
  | none => none) := (Eq.refl _).trans (Eq.refl _)
theorem iR1_ap (f : EM (List D)) (env : Ev) : iR1 f env = (match f env with
  | some ([.int b], e1) => if small62 b then some (rng 0 b, e1) else none
  | _ => none) := (Eq.refl _).trans (Eq.refl _)
theorem iR2_ap (f : EM (List D)) (env : Ev) : iR2 f env = (match f env with
  | some ([.int a, .int b], e1) => if small62 a && small62 b then some (rng a b, e1) else none
  | _ => none) := (Eq.refl _).trans (Eq.refl _)
theorem iZp_ap (f : EM (List D)) (env : Ev) : iZp f env = (match f env with
  | some ([x, y], e1) => match zipD x y with
    | some xs => some (xs, e1)
    | none => none
  | _ => none) := (Eq.refl _).trans (Eq.refl _)
theorem gN_ap (i : Nat) (d : D) (env : Ev) : gN i d env = (if i < env.length then some (env.set i (.fz d)) else none) := (Eq.refl _).trans (Eq.refl _)
theorem gNilD_ap (ds : List D) (env : Ev) : gNilD  ds env = (match ds with
  | [] => some env
  | _ => none) := (Eq.refl _).trans (Eq.refl _)
theorem gConsD_ap (g : GM) (gs : GMs) (ds : List D) (env : Ev) : gConsD g gs ds env = (match ds with
  | d :: r => match g d env with
    | some e1 => gs r e1
    | none => none
  | _ => none) := (Eq.refl _).trans (Eq.refl _)
theorem gTupD_ap (n : Nat) (gs : GMs) (d : D) (env : Ev) : gTupD n gs d env = (match d with
  | .tuple ds => if ds.length = n then gs ds env else none
  | _ => none) := (Eq.refl _).trans (Eq.refl _)
theorem cC_ap (vs : List Nat) (it : EM (List D)) (g : GM) (c : EM Bool) (e : EM D) (env : Ev) : cC vs it g c e env = (match it env with
  | some (ds, e1) => match cLoop vs g c e ds (unE e1 vs) with
    | some (ys, e2) => if ys.length ≤ sizeLine then some (ys, reE e1 e2 vs) else none
    | none => none
  | none => none) := (Eq.refl _).trans (Eq.refl _)
theorem cYes_ap (env : Ev) : cYes  env = (some (true, env)) := (Eq.refl _).trans (Eq.refl _)
theorem cA_ap (stop : Bool) (vs : List Nat) (it : EM (List D)) (g : GM) (c : EM Bool) (e : EM D) (env : Ev) : cA stop vs it g c e env = (match it env with
  | some (ds, e1) => match aLoop stop vs g c e ds (unE e1 vs) with
    | some (b, e2) => some (.bool b, reE e1 e2 vs)
    | none => none
  | none => none) := (Eq.refl _).trans (Eq.refl _)
theorem sNil_ap (env : Ev) (Φ : Fl → Prop) : sNil  env Φ = (Φ (.nx env)) := (Eq.refl _).trans (Eq.refl _)
theorem sSeq_ap (a b : SM) (env : Ev) (Φ : Fl → Prop) : sSeq a b env Φ = (a env fun fl => match fl with
  | .nx e => b e Φ
  | .rt d e => Φ (.rt d e)
  | .bk e => Φ (.bk e)
  | .ct e => Φ (.ct e)) := (Eq.refl _).trans (Eq.refl _)
theorem sIf_ap (c : EM Bool) (a b : SM) (env : Ev) (Φ : Fl → Prop) : sIf c a b env Φ = (match c env with
  | some (true, e) => a e Φ
  | some (false, e) => b e Φ
  | none => False) := (Eq.refl _).trans (Eq.refl _)
theorem sRet_ap (f : EM D) (env : Ev) (Φ : Fl → Prop) : sRet f env Φ = (match f env with
  | some (d, e) => Φ (.rt d e)
  | none => False) := (Eq.refl _).trans (Eq.refl _)
theorem sRetN_ap (env : Ev) (Φ : Fl → Prop) : sRetN  env Φ = (Φ (.rt .none env)) := (Eq.refl _).trans (Eq.refl _)
theorem sSet_ap (g : GM) (f : EM D) (env : Ev) (Φ : Fl → Prop) : sSet g f env Φ = (match f env with
  | some (d, e) => match g d e with
    | some e' => Φ (.nx e')
    | none => False
  | none => False) := (Eq.refl _).trans (Eq.refl _)
theorem sSetO_ap (i : Nat) (f : EM (List D)) (env : Ev) (Φ : Fl → Prop) : sSetO i f env Φ = (match f env with
  | some (ds, e) => i < e.length ∧ Φ (.nx (e.set i (.ow none ds)))
  | none => False) := (Eq.refl _).trans (Eq.refl _)
theorem sExp_ap (f : EM D) (env : Ev) (Φ : Fl → Prop) : sExp f env Φ = (match f env with
  | some (_, e) => Φ (.nx e)
  | none => False) := (Eq.refl _).trans (Eq.refl _)
theorem sBrk_ap (env : Ev) (Φ : Fl → Prop) : sBrk  env Φ = (Φ (.bk env)) := (Eq.refl _).trans (Eq.refl _)
theorem sCont_ap (env : Ev) (Φ : Fl → Prop) : sCont  env Φ = (Φ (.ct env)) := (Eq.refl _).trans (Eq.refl _)
theorem sFor_ap (it : EM (List D)) (g : GM) (b : SM) (env : Ev) (Φ : Fl → Prop) : sFor it g b env Φ = (match it env with
  | some (ds, e) => wFor g b ds e Φ
  | none => False) := (Eq.refl _).trans (Eq.refl _)
theorem sWhile_ap (c : EM Bool) (b : SM) (env : Ev) (Φ : Fl → Prop) : sWhile c b env Φ = (∃ W : Nat → Ev → Prop, (∃ m, W m env) ∧ ∀ m e, W m e → match c e with
  | some (true, e1) => b e1 fun fl => match fl with
    | .nx e => ∃ m', m' < m ∧ W m' e
    | .ct e => ∃ m', m' < m ∧ W m' e
    | .bk e => Φ (.nx e)
    | .rt d e => Φ (.rt d e)
  | some (false, e1) => Φ (.nx e1)
  | none => False) := (Eq.refl _).trans (Eq.refl _)
theorem sApp_ap (i : Nat) (f : EM D) (env : Ev) (Φ : Fl → Prop) : sApp i f env Φ = (match env[i]? with
  | some (.ow _ _) => match f env with
    | some (d, e1) => match e1[i]? with
      | some (.ow t ds) => ds.length < sizeLine ∧ Φ (.nx (e1.set i (.ow t (ds ++ [d]))))
      | _ => False
    | none => False
  | _ => False) := (Eq.refl _).trans (Eq.refl _)
theorem ePop_ap (i : Nat) (env : Ev) : ePop i env = (match env[i]? with
  | some (.ow t ds) => match ds.getLast? with
    | some d => some (d, env.set i (.ow t ds.dropLast))
    | none => none
  | _ => none) := (Eq.refl _).trans (Eq.refl _)
theorem sPut_ap (i : Nat) (fj f : EM D) (env : Ev) (Φ : Fl → Prop) : sPut i fj f env Φ = (match f env with
  | some (d, e1) => match e1[i]? with
    | some (.ow _ _) => match fj e1 with
      | some (.int j, e2) => match e2[i]? with
        | some (.ow t ds) => match ixN ds.length j with
          | some n => Φ (.nx (e2.set i (.ow t (ds.set n d))))
          | none => False
        | _ => False
      | _ => False
    | _ => False
  | none => False) := (Eq.refl _).trans (Eq.refl _)
theorem eCall_ap (g : List D → Option D) (f : EM (List D)) (env : Ev) : eCall g f env = (match f env with
  | some (ds, e1) => match g ds with
    | some z => some (z, e1)
    | none => none
  | none => none) := (Eq.refl _).trans (Eq.refl _)
theorem eCallO_ap (i : Nat) (mf : List D → List D → Option (D × List D)) (fs : EM (List D)) (env : Ev) : eCallO i mf fs env = (match env[i]? with
  | some (.ow _ _) => match fs env with
    | some (ds, e1) => match e1[i]? with
      | some (.ow t L) => match mf L ds with
        | some (d, L') => some (d, e1.set i (.ow t L'))
        | none => none
      | _ => none
    | none => none
  | _ => none) := (Eq.refl _).trans (Eq.refl _)
theorem eSumG_ap (vs : List Nat) (it : EM (List D)) (g : GM) (c : EM Bool) (e : EM D) (env : Ev) : eSumG vs it g c e env = (match it env with
  | some (ds, e1) => match cLoop vs g c e ds (unE e1 vs) with
    | some (ys, e2) => match intsOf ys with
      | some is => some (.int is.sum, reE e1 e2 vs)
      | none => none
    | none => none
  | none => none) := (Eq.refl _).trans (Eq.refl _)
theorem eLenO_ap (i : Nat) (env : Ev) : eLenO i env = (match env[i]? with
  | some (.ow _ ds) => some (.int ds.length, env)
  | _ => none) := (Eq.refl _).trans (Eq.refl _)
theorem sDk0_ap (i : Nat) (env : Ev) (Φ : Fl → Prop) : sDk0 i env Φ = (if i < env.length then Φ (.nx (env.set i (.dk []))) else False) := (Eq.refl _).trans (Eq.refl _)
theorem sDput_ap (i : Nat) (fk f : EM D) (env : Ev) (Φ : Fl → Prop) : sDput i fk f env Φ = (match f env with
  | some (d, e1) => match e1[i]? with
    | some (.dk _) => match fk e1 with
      | some (kd, e2) => match keyD kd with
        | some ky => match e2[i]? with
          | some (.dk kvs) => if kvs.length < sizeLine then Φ (.nx (e2.set i (.dk (putD kvs ky d)))) else False
          | _ => False
        | none => False
      | none => False
    | _ => False
  | none => False) := (Eq.refl _).trans (Eq.refl _)
theorem eSrtDk_ap (i : Nat) (env : Ev) : eSrtDk i env = (match env[i]? with
  | some (.dk kvs) => match intKeys kvs with
    | some is => some (.list ((sortI is).map .int), env)
    | none => none
  | _ => none) := (Eq.refl _).trans (Eq.refl _)
theorem eDget_ap (i : Nat) (fk : EM D) (env : Ev) : eDget i fk env = (match env[i]? with
  | some (.dk _) => match fk env with
    | some (kd, e1) => match keyD kd with
      | some ky => match e1[i]? with
        | some (.dk kvs) => match getD kvs ky with
          | some d => some (d, e1)
          | none => none
        | _ => none
      | none => none
    | none => none
  | _ => none) := (Eq.refl _).trans (Eq.refl _)
theorem eDin_ap (i : Nat) (fk : EM D) (env : Ev) : eDin i fk env = (match fk env with
  | some (kd, e1) => match keyD kd with
    | some ky => match e1[i]? with
      | some (.dk kvs) => some (.bool (getD kvs ky).isSome, e1)
      | _ => none
    | none => none
  | none => none) := (Eq.refl _).trans (Eq.refl _)
theorem eRevO_ap (i : Nat) (env : Ev) : eRevO i env = (match env[i]? with
  | some (.ow _ ds) => some (ds.reverse, env)
  | _ => none) := (Eq.refl _).trans (Eq.refl _)
theorem eLenS_ap (i : Nat) (env : Ev) : eLenS i env = (match env[i]? with
  | some (.sq ds) => some (.int ds.length, env)
  | _ => none) := (Eq.refl _).trans (Eq.refl _)
theorem eIxS_ap (i : Nat) (b : EM D) (env : Ev) : eIxS i b env = (match env[i]? with
  | some (.sq ds) => match b env with
    | some (.int j, e1) => match atI ds j with
      | some d => some (d, e1)
      | none => none
    | _ => none
  | _ => none) := (Eq.refl _).trans (Eq.refl _)
theorem iSq_ap (i : Nat) (env : Ev) : iSq i env = (match env[i]? with
  | some (.sq ds) => some (ds, env)
  | _ => none) := (Eq.refl _).trans (Eq.refl _)
theorem nSeq_ap (s : SM) (t : SN) (env : Ev) (Φ : List D → Prop) : nSeq s t env Φ = (s env fun fl => match fl with
  | .nx e => t e Φ
  | _ => False) := (Eq.refl _).trans (Eq.refl _)
theorem nRet_ap (f : EM (List D)) (env : Ev) (Φ : List D → Prop) : nRet f env Φ = (match f env with
  | some (ds, _) => Φ ds
  | none => False) := (Eq.refl _).trans (Eq.refl _)
theorem sDraws_ap (i j : Nat) (Pn : List Int → Prop) (env : Ev) (Φ : Fl → Prop) : sDraws i j Pn env Φ = (∃ ns, env[i]? = some (.sq (ns.map .int)) ∧ Pn ns ∧ j < env.length ∧ ∀ l : List Int, Φ (.nx (env.set j (.ow none (l.map .int))))) := (Eq.refl _).trans (Eq.refl _)
theorem sAug_ap (i : Nat) (g : D → D → Option D) (f : EM D) (env : Ev) (Φ : Fl → Prop) : sAug i g f env Φ = (match env[i]? with
  | some (.fz x) => match f env with
    | some (y, e1) => match g x y with
      | some z => if i < e1.length then Φ (.nx (e1.set i (.fz z))) else False
      | none => False
    | none => False
  | _ => False) := (Eq.refl _).trans (Eq.refl _)
theorem sPar_ap (i j : Nat) (f : EM (List D)) (env : Ev) (Φ : Fl → Prop) : sPar i j f env Φ = (match f env with
  | some ([d, e], e1) => if i < e1.length ∧ j < e1.length then Φ (.nx ((e1.set i (.fz d)).set j (.fz e))) else False
  | _ => False) := (Eq.refl _).trans (Eq.refl _)
end DL

namespace DL
open PySem PySem.Spec PyProof.Rows L2 GxR
/-! ### plain facts for the sem proofs -/
def P63 (ns : List Int) : Prop := ns.length ≤ 63
theorem s62 {a : Int} (h1 : -1000000 ≤ a) (h2 : a ≤ 1000000) : small62 a = true := small62_of (by omega) (by omega)
theorem intsOf_map : ∀ l : List Int, intsOf (l.map .int) = some l
  | [] => rfl
  | i :: r => by rw [List.map_cons, intsOf, intsOf_map r]
theorem intsOf_inv : ∀ {ds : List D} {l : List Int}, intsOf ds = some l → ds = l.map .int
  | [], l, h => by cases h; rfl
  | d :: r, l, h => by
    cases d <;> simp only [intsOf] at h <;> try cases h
    split at h
    · rename_i is h1
      cases h
      rw [List.map_cons, intsOf_inv h1]
    · cases h
theorem line_small {n : Nat} (h : n ≤ 10000000) : n ≤ sizeLine := by rw [sizeLine_eq]; omega
theorem line_lt {n : Nat} (h : n < 10000000) : n < sizeLine := by rw [sizeLine_eq]; omega
theorem shaped_int {i : Int} : SeqAt.shaped (.int i) = true := (Eq.refl _).trans (Eq.refl _)
theorem shaped_bool {b : Bool} : SeqAt.shaped (.bool b) = true := (Eq.refl _).trans (Eq.refl _)
theorem shaped_none : SeqAt.shaped (.none : D) = true := (Eq.refl _).trans (Eq.refl _)
theorem dEq_i {i j : Int} : dEq (.int i) (.int j) = some (.bool (i == j)) := (Eq.refl _).trans (Eq.refl _)
theorem dNe_i {i j : Int} : dNe (.int i) (.int j) = some (.bool (!(i == j))) := (Eq.refl _).trans (Eq.refl _)
theorem dEq_b {i j : Bool} : dEq (.bool i) (.bool j) = some (.bool (i == j)) := by cases i <;> cases j <;> rfl
theorem dNe_b {i j : Bool} : dNe (.bool i) (.bool j) = some (.bool (!(i == j))) := by cases i <;> cases j <;> rfl
theorem dAdd_i {i j : Int} : dAdd (.int i) (.int j) = some (.int (i + j)) := (Eq.refl _).trans (Eq.refl _)
theorem dAdd_l {xs ys : List D} : dAdd (.list xs) (.list ys) = if xs.length + ys.length ≤ sizeLine then some (.list (xs ++ ys)) else none := (Eq.refl _).trans (Eq.refl _)
theorem dAdd_t {xs ys : List D} : dAdd (.tuple xs) (.tuple ys) = if xs.length + ys.length ≤ sizeLine then some (.tuple (xs ++ ys)) else none := (Eq.refl _).trans (Eq.refl _)
theorem dAbs_i {i : Int} : dAbs [.int i] = some (.int (if i < 0 then -i else i)) := (Eq.refl _).trans (Eq.refl _)
theorem zip_l {xs ys : List D} : zipD (.list xs) (.list ys) = some ((xs.zip ys).map fun p => .tuple [p.1, p.2]) := (Eq.refl _).trans (Eq.refl _)
theorem zip_t {xs ys : List D} : zipD (.tuple xs) (.tuple ys) = some ((xs.zip ys).map fun p => .tuple [p.1, p.2]) := (Eq.refl _).trans (Eq.refl _)
theorem walk_l {xs : List D} : walkOf (.list xs) = some xs := (Eq.refl _).trans (Eq.refl _)
theorem walk_t {xs : List D} : walkOf (.tuple xs) = some xs := (Eq.refl _).trans (Eq.refl _)
theorem items_l {xs : List D} : itemsOf (.list xs) = some xs := (Eq.refl _).trans (Eq.refl _)
theorem items_t {xs : List D} : itemsOf (.tuple xs) = some xs := (Eq.refl _).trans (Eq.refl _)
theorem dLen_l {xs : List D} : dLen [.list xs] = some (.int xs.length) := (Eq.refl _).trans (Eq.refl _)
theorem dLen_t {xs : List D} : dLen [.tuple xs] = some (.int xs.length) := (Eq.refl _).trans (Eq.refl _)
theorem dTuple_l {xs : List D} : dTuple [.list xs] = some (.tuple xs) := (Eq.refl _).trans (Eq.refl _)
theorem dTuple_t {xs : List D} : dTuple [.tuple xs] = some (.tuple xs) := (Eq.refl _).trans (Eq.refl _)
theorem dList_l {xs : List D} : dList [.list xs] = some (.list xs) := (Eq.refl _).trans (Eq.refl _)
theorem dList_t {xs : List D} : dList [.tuple xs] = some (.list xs) := (Eq.refl _).trans (Eq.refl _)
theorem dInt_i {i : Int} : dInt [.int i] = some (.int i) := (Eq.refl _).trans (Eq.refl _)
theorem dSl_l {xs : List D} {lo hi : Option Int} : dSl (.list xs) lo hi = some (.list (cutD xs lo hi)) := (Eq.refl _).trans (Eq.refl _)
theorem dSl_t {xs : List D} {lo hi : Option Int} : dSl (.tuple xs) lo hi = some (.tuple (cutD xs lo hi)) := (Eq.refl _).trans (Eq.refl _)
theorem dIsNot_b {x y : Bool} : dIsNot (.bool x) (.bool y) = some (.bool (!(x == y))) := by cases x <;> cases y <;> rfl
theorem dSub_i {i j : Int} : dSub (.int i) (.int j) = some (.int (i - j)) := (Eq.refl _).trans (Eq.refl _)
theorem dMul_i {i j : Int} : dMul (.int i) (.int j) = if (-(2 ^ 64) < i ∧ i < 2 ^ 64) ∨ (-(2 ^ 64) < j ∧ j < 2 ^ 64) then some (.int (i * j)) else none := (Eq.refl _).trans (Eq.refl _)
theorem dDiv_i {i j : Int} : dDiv (.int i) (.int j) = if 0 < j ∧ j < 1073741824 then some (.int (i / j)) else none := (Eq.refl _).trans (Eq.refl _)
theorem dModI_i {i j : Int} : dModI (.int i) (.int j) = if 0 < j then some (.int (i % j)) else none := (Eq.refl _).trans (Eq.refl _)
theorem dLt_i {i j : Int} : dLt (.int i) (.int j) = some (.bool (decide (i < j))) := (Eq.refl _).trans (Eq.refl _)
theorem dLe_i {i j : Int} : dLe (.int i) (.int j) = some (.bool (decide (i ≤ j))) := (Eq.refl _).trans (Eq.refl _)
theorem dGt_i {i j : Int} : dGt (.int i) (.int j) = some (.bool (decide (j < i))) := (Eq.refl _).trans (Eq.refl _)
theorem dGe_i {i j : Int} : dGe (.int i) (.int j) = some (.bool (decide (j ≤ i))) := (Eq.refl _).trans (Eq.refl _)
theorem wFor_inv {g : GM} {b : SM} {Φ : Fl → Prop} (I : List D → Ev → Prop)
    (step : ∀ d r env, I (d :: r) env → ∀ K : Ev → Prop, (∀ e, I r e → K e) → ∃ e1, g d env = some e1 ∧ b e1 (fun fl => match fl with
      | .nx e => K e
      | .ct e => K e
      | .bk e => Φ (.nx e)
      | .rt d e => Φ (.rt d e)))
    (fin : ∀ env, I [] env → Φ (.nx env)) : ∀ ds env, I ds env → wFor g b ds env Φ
  | [], env, h => fin env h
  | d :: r, env, h => by
    obtain ⟨e1, h1, h2⟩ := step d r env h _ (wFor_inv I step fin r)
    unfold wFor
    rw [h1]
    exact h2
/-- a comprehension whose environment stands still -/
theorem cLoop_eq {vs : List Nat} {g : GM} {c : EM Bool} {e : EM D} {env : Ev} (b : D → Bool) (f : D → D) : ∀ ds : List D, (∀ d ∈ ds, ∃ env1 env2, g d env = some env1 ∧ c env1 = some (b d, env2) ∧ (b d = true → ∃ env3, e env2 = some (f d, env3) ∧ unE env3 vs = env) ∧ (b d = false → unE env2 vs = env)) →
    cLoop vs g c e ds env = some ((ds.filter b).map f, env)
  | [], _ => rfl
  | d :: r, h => by
    obtain ⟨env1, env2, h1, h2, h3, h4⟩ := h d List.mem_cons_self
    have ih := cLoop_eq b f r fun x hx => h x (List.mem_cons_of_mem _ hx)
    unfold cLoop
    rw [h1]
    simp only [h2]
    cases hb : b d with
    | true =>
      obtain ⟨env3, h5, h6⟩ := h3 hb
      simp only [h5, h6, ih, List.filter_cons, hb, if_true, List.map_cons]
    | false =>
      simp only [h4 hb, ih, List.filter_cons, hb, Bool.false_eq_true, if_false]
theorem aLoop_eq {stop : Bool} {vs : List Nat} {g : GM} {c : EM Bool} {e : EM D} {env : Ev} (f : D → Bool) : ∀ ds : List D, (∀ d ∈ ds, ∃ env1 env2 env3, g d env = some env1 ∧ c env1 = some (true, env2) ∧ e env2 = some (.bool (f d), env3) ∧ unE env3 vs = env) →
    aLoop stop vs g c e ds env = some (if stop then ds.any f else ds.all f, env)
  | [], _ => by cases stop <;> rfl
  | d :: r, h => by
    obtain ⟨env1, env2, env3, h1, h2, h3, h4⟩ := h d List.mem_cons_self
    have ih := aLoop_eq (stop := stop) f r fun x hx => h x (List.mem_cons_of_mem _ hx)
    unfold aLoop
    simp only [h1, h2, h3, h4, ih]
    cases stop <;> cases hf : f d <;> simp [hf]
/-! ### taking a draw -/
def mf__law_take (L ds : List D) : Option (D × List D) := match ds with
  | [.int b] => match L.getLast? with
    | none => some (.int 0, L)
    | some (.int x) => if 0 < b then some (.int (x % b), L.dropLast) else none
    | _ => none
  | _ => none
def tk (l : List Int) (b : Int) : Int := match l.getLast? with
  | none => 0
  | some x => x % b
theorem tk_lt (l : List Int) {b : Int} (h : 0 < b) : 0 ≤ tk l b ∧ tk l b < b := by
  unfold tk
  split
  · omega
  · exact ⟨Int.emod_nonneg _ (by omega), Int.emod_lt_of_pos _ h⟩
theorem take_eq (l : List Int) {b : Int} (h : 0 < b) : mf__law_take (l.map .int) [.int b] = some (.int (tk l b), (l.dropLast).map .int) := by
  unfold mf__law_take tk
  rw [List.getLast?_map]
  cases hl : l.getLast? with
  | none =>
    have : l = [] := by simpa using hl
    subst this
    rfl
  | some x => simp [h, List.map_dropLast]
theorem sem_take : ∀ p L ds d L', ds.length = 1 → mf__law_take L ds = some (d, L') →
    (sSeq (sIf (tE (eB dEq (eLenO 0) (eC (.int 0)))) (sRet (eC (.int 0))) sNil)
    (sRet (eB dModI (eCall dInt (eAc (ePop 0) eA0)) (eV 1)))) (envO ["draws", "bound"] p L ds) (retsO p d L') := by
  intro p L ds d L' hl hm
  match ds, hl with
  | [b], _ =>
    unfold mf__law_take at hm
    split at hm
    · rename_i b' e
      cases e
      cases L with
      | nil =>
        cases hm
        simp only [eC_ap, eV_ap, eB_ap, eU_ap, eAnd_ap, eOr_ap, tE_ap, tAnd_ap, tOr_ap, tNot_ap, eIf_ap, eCh_ap, eA0_ap, eAc_ap, eAs_ap, eTup_ap, eLs_ap, eOfL_ap, eIxO_ap, eP0_ap, ePs_ap, eSl_ap, iW_ap, iR1_ap, iR2_ap, iZp_ap, gN_ap, gNilD_ap, gConsD_ap, gTupD_ap, cYes_ap, sNil_ap, sSeq_ap, sIf_ap, sRet_ap, sRetN_ap, sSet_ap, sSetO_ap, sExp_ap, sBrk_ap, sCont_ap, sApp_ap, ePop_ap, sPut_ap, eCall_ap, eCallO_ap, eLenO_ap, sDk0_ap, sDput_ap, eSrtDk_ap, eDget_ap, eDin_ap, eRevO_ap, eLenS_ap, eIxS_ap, iSq_ap, nSeq_ap, nRet_ap, sDraws_ap, sAug_ap, sPar_ap, unE, reE, keepF, dIs, dNot, dNeg, dIsT, isTy, tyOf, rets, retsO, List.getElem?_cons_zero, List.getElem?_cons_succ, List.set_cons_zero, List.set_cons_succ, List.length_cons, List.length_nil, List.length_map, List.length_set, Nat.reduceAdd, Nat.reduceSub, Nat.reduceLT, Nat.reduceLeDiff, dAdd_i, dAdd_l, dAdd_t, dSub_i, dMul_i, dDiv_i, dModI_i, dLt_i, dLe_i, dGt_i, dGe_i, dEq_i, dNe_i, dEq_b, dNe_b, if_true, if_false, decide_true, decide_false, Bool.false_eq_true, Bool.not_true, Bool.not_false, and_true, true_and, and_self, or_true, true_or, reduceIte, Int.reduceNeg, Int.reducePow, Int.reduceLT, Int.reduceLE, Int.reduceGT, Int.reduceAdd, Int.reduceMul, Int.reduceSub, Int.reduceToNat, Nat.reducePow, Nat.reduceMul, Nat.reduceEqDiff, Int.reduceBEq, or_self, and_false, false_and, false_or, or_false, Bool.and_true, Bool.true_and, Bool.and_false, Bool.false_and, Bool.and_self, List.length_append, dAbs_i, Int.cast_ofNat_Int, beq_self_eq_true, String.reduceBEq, zip_l, zip_t, walk_l, walk_t, items_l, items_t, dLen_l, dLen_t, dTuple_l, dTuple_t, dList_l, dList_t, dInt_i, dSl_l, dSl_t, dIsNot_b, envO, List.map_cons, List.map_nil, List.cons_append, List.nil_append, List.replicate_succ, List.replicate_zero]
        skip
      | cons x r =>
        have hlen : ((r.length : Int) + 1 == 0) = false := by rw [beq_eq_false_iff_ne]; omega
        cases hg : (x :: r).getLast? with
        | none => simp at hg
        | some y =>
          rw [hg] at hm
          cases y <;> simp only at hm <;> try cases hm
          split at hm
          · rename_i hb
            cases hm
            have hb2 : (0 : Int) < b' := hb
            simp only [eC_ap, eV_ap, eB_ap, eU_ap, eAnd_ap, eOr_ap, tE_ap, tAnd_ap, tOr_ap, tNot_ap, eIf_ap, eCh_ap, eA0_ap, eAc_ap, eAs_ap, eTup_ap, eLs_ap, eOfL_ap, eIxO_ap, eP0_ap, ePs_ap, eSl_ap, iW_ap, iR1_ap, iR2_ap, iZp_ap, gN_ap, gNilD_ap, gConsD_ap, gTupD_ap, cYes_ap, sNil_ap, sSeq_ap, sIf_ap, sRet_ap, sRetN_ap, sSet_ap, sSetO_ap, sExp_ap, sBrk_ap, sCont_ap, sApp_ap, ePop_ap, sPut_ap, eCall_ap, eCallO_ap, eLenO_ap, sDk0_ap, sDput_ap, eSrtDk_ap, eDget_ap, eDin_ap, eRevO_ap, eLenS_ap, eIxS_ap, iSq_ap, nSeq_ap, nRet_ap, sDraws_ap, sAug_ap, sPar_ap, unE, reE, keepF, dIs, dNot, dNeg, dIsT, isTy, tyOf, rets, retsO, List.getElem?_cons_zero, List.getElem?_cons_succ, List.set_cons_zero, List.set_cons_succ, List.length_cons, List.length_nil, List.length_map, List.length_set, Nat.reduceAdd, Nat.reduceSub, Nat.reduceLT, Nat.reduceLeDiff, dAdd_i, dAdd_l, dAdd_t, dSub_i, dMul_i, dDiv_i, dModI_i, dLt_i, dLe_i, dGt_i, dGe_i, dEq_i, dNe_i, dEq_b, dNe_b, if_true, if_false, decide_true, decide_false, Bool.false_eq_true, Bool.not_true, Bool.not_false, and_true, true_and, and_self, or_true, true_or, reduceIte, Int.reduceNeg, Int.reducePow, Int.reduceLT, Int.reduceLE, Int.reduceGT, Int.reduceAdd, Int.reduceMul, Int.reduceSub, Int.reduceToNat, Nat.reducePow, Nat.reduceMul, Nat.reduceEqDiff, Int.reduceBEq, or_self, and_false, false_and, false_or, or_false, Bool.and_true, Bool.true_and, Bool.and_false, Bool.false_and, Bool.and_self, List.length_append, dAbs_i, Int.cast_ofNat_Int, beq_self_eq_true, String.reduceBEq, zip_l, zip_t, walk_l, walk_t, items_l, items_t, dLen_l, dLen_t, dTuple_l, dTuple_t, dList_l, dList_t, dInt_i, dSl_l, dSl_t, dIsNot_b, envO, List.map_cons, List.map_nil, List.cons_append, List.nil_append, List.replicate_succ, List.replicate_zero]
            simp [hlen, hg, hb2, dModI_i, dInt_i]
          · cases hm
    · cases hm
end DL

namespace DL
open PySem PySem.Spec PyProof.Rows L2 GxR
/-! ### the draws of a script -/
theorem app_int (l : List Int) (z : Int) : (l.map PyData.int ++ [.int z] : List D) = (l ++ [z]).map .int := by simp
theorem int_of_map {d : D} {r : List D} {ks : List Int} (h : d :: r = ks.map .int) : ∃ (k : Int) (ks' : List Int), d = .int k ∧ r = ks'.map .int := by
  cases ks with
  | nil => cases h
  | cons k ks => rw [List.map_cons] at h; cases h; exact ⟨k, ks, rfl, rfl⟩
theorem rng_len {a b : Int} : (rng a b).length = (b - a).toNat := by unfold rng; simp
theorem range1_ap (b : Int) (h : small62 b = true) (env : Ev) (g : GM) (body : SM) (Φ : Fl → Prop) : sFor (iR1 (eAc (eC (.int b)) eA0)) g body env Φ = wFor g body (rng 0 b) env Φ := by
  simp only [sFor_ap, iR1_ap, eAc_ap, eA0_ap, eC_ap, h, if_true]
/-- the turns that take a number apart -/
theorem sem_peel (s : SV) (x2 x4 x6 : SV) (n0 : Int) (l0 : List Int) (hl : l0.length ≤ 100000) (Φ : Fl → Prop)
    (h : ∀ (l : List Int) (n : Int) (x5 : SV), l.length ≤ l0.length + 60 → Φ (.nx [s, .ow none (l.map .int), x2, .fz (.int n), x4, x5, x6])) (x5 : SV) :
    (sFor (iR1 (eAc (eC (.int 60)) eA0)) (gN 5) (sIf (tE (eB dGt (eV 3) (eC (.int 0)))) (sSeq (sApp 1 (eB dModI (eCall dInt (eAc (eV 3) eA0)) (eC (.int 997))))
    (sSet (gN 3) (eB dDiv (eV 3) (eC (.int 997))))) sNil)) [s, .ow none (l0.map .int), x2, .fz (.int n0), x4, x5, x6] Φ := by
  rw [range1_ap _ (s62 (by decide) (by decide))]
  refine wFor_inv (fun r env => ∃ (l : List Int) (n : Int) (x5 : SV), env = [s, .ow none (l.map .int), x2, .fz (.int n), x4, x5, x6] ∧ l.length + r.length ≤ l0.length + 60) ?_ ?_ _ _ ⟨l0, n0, x5, rfl, by rw [rng_len]; omega⟩
  · rintro d r env ⟨l, n, y5, rfl, hle⟩ K hK
    rw [List.length_cons] at hle
    refine ⟨_, rfl, ?_⟩
    by_cases hn : 0 < n
    · have hlt : l.length < sizeLine := line_lt (by omega)
      simp only [eC_ap, eV_ap, eB_ap, eU_ap, eAnd_ap, eOr_ap, tE_ap, tAnd_ap, tOr_ap, tNot_ap, eIf_ap, eCh_ap, eA0_ap, eAc_ap, eAs_ap, eTup_ap, eLs_ap, eOfL_ap, eIxO_ap, eP0_ap, ePs_ap, eSl_ap, iW_ap, iR1_ap, iR2_ap, iZp_ap, gN_ap, gNilD_ap, gConsD_ap, gTupD_ap, cYes_ap, sNil_ap, sSeq_ap, sIf_ap, sRet_ap, sRetN_ap, sSet_ap, sSetO_ap, sExp_ap, sBrk_ap, sCont_ap, sApp_ap, ePop_ap, sPut_ap, eCall_ap, eCallO_ap, eLenO_ap, sDk0_ap, sDput_ap, eSrtDk_ap, eDget_ap, eDin_ap, eRevO_ap, eLenS_ap, eIxS_ap, iSq_ap, nSeq_ap, nRet_ap, sDraws_ap, sAug_ap, sPar_ap, unE, reE, keepF, dIs, dNot, dNeg, dIsT, isTy, tyOf, rets, retsO, List.getElem?_cons_zero, List.getElem?_cons_succ, List.set_cons_zero, List.set_cons_succ, List.length_cons, List.length_nil, List.length_map, List.length_set, Nat.reduceAdd, Nat.reduceSub, Nat.reduceLT, Nat.reduceLeDiff, dAdd_i, dAdd_l, dAdd_t, dSub_i, dMul_i, dDiv_i, dModI_i, dLt_i, dLe_i, dGt_i, dGe_i, dEq_i, dNe_i, dEq_b, dNe_b, if_true, if_false, decide_true, decide_false, Bool.false_eq_true, Bool.not_true, Bool.not_false, and_true, true_and, and_self, or_true, true_or, reduceIte, Int.reduceNeg, Int.reducePow, Int.reduceLT, Int.reduceLE, Int.reduceGT, Int.reduceAdd, Int.reduceMul, Int.reduceSub, Int.reduceToNat, Nat.reducePow, Nat.reduceMul, Nat.reduceEqDiff, Int.reduceBEq, or_self, and_false, false_and, false_or, or_false, Bool.and_true, Bool.true_and, Bool.and_false, Bool.false_and, Bool.and_self, List.length_append, dAbs_i, Int.cast_ofNat_Int, beq_self_eq_true, String.reduceBEq, zip_l, zip_t, walk_l, walk_t, items_l, items_t, dLen_l, dLen_t, dTuple_l, dTuple_t, dList_l, dList_t, dInt_i, dSl_l, dSl_t, dIsNot_b, hn, decide_true, hlt, true_and]
      refine hK _ ⟨l ++ [n % 997], n / 997, .fz d, by rw [← app_int], by simp; omega⟩
    · simp only [eC_ap, eV_ap, eB_ap, eU_ap, eAnd_ap, eOr_ap, tE_ap, tAnd_ap, tOr_ap, tNot_ap, eIf_ap, eCh_ap, eA0_ap, eAc_ap, eAs_ap, eTup_ap, eLs_ap, eOfL_ap, eIxO_ap, eP0_ap, ePs_ap, eSl_ap, iW_ap, iR1_ap, iR2_ap, iZp_ap, gN_ap, gNilD_ap, gConsD_ap, gTupD_ap, cYes_ap, sNil_ap, sSeq_ap, sIf_ap, sRet_ap, sRetN_ap, sSet_ap, sSetO_ap, sExp_ap, sBrk_ap, sCont_ap, sApp_ap, ePop_ap, sPut_ap, eCall_ap, eCallO_ap, eLenO_ap, sDk0_ap, sDput_ap, eSrtDk_ap, eDget_ap, eDin_ap, eRevO_ap, eLenS_ap, eIxS_ap, iSq_ap, nSeq_ap, nRet_ap, sDraws_ap, sAug_ap, sPar_ap, unE, reE, keepF, dIs, dNot, dNeg, dIsT, isTy, tyOf, rets, retsO, List.getElem?_cons_zero, List.getElem?_cons_succ, List.set_cons_zero, List.set_cons_succ, List.length_cons, List.length_nil, List.length_map, List.length_set, Nat.reduceAdd, Nat.reduceSub, Nat.reduceLT, Nat.reduceLeDiff, dAdd_i, dAdd_l, dAdd_t, dSub_i, dMul_i, dDiv_i, dModI_i, dLt_i, dLe_i, dGt_i, dGe_i, dEq_i, dNe_i, dEq_b, dNe_b, if_true, if_false, decide_true, decide_false, Bool.false_eq_true, Bool.not_true, Bool.not_false, and_true, true_and, and_self, or_true, true_or, reduceIte, Int.reduceNeg, Int.reducePow, Int.reduceLT, Int.reduceLE, Int.reduceGT, Int.reduceAdd, Int.reduceMul, Int.reduceSub, Int.reduceToNat, Nat.reducePow, Nat.reduceMul, Nat.reduceEqDiff, Int.reduceBEq, or_self, and_false, false_and, false_or, or_false, Bool.and_true, Bool.true_and, Bool.and_false, Bool.false_and, Bool.and_self, List.length_append, dAbs_i, Int.cast_ofNat_Int, beq_self_eq_true, String.reduceBEq, zip_l, zip_t, walk_l, walk_t, items_l, items_t, dLen_l, dLen_t, dTuple_l, dTuple_t, dList_l, dList_t, dInt_i, dSl_l, dSl_t, dIsNot_b, hn, decide_false]
      exact hK _ ⟨l, n, .fz d, rfl, by omega⟩
  · rintro env ⟨l, n, y5, rfl, hle⟩
    exact h l n y5 (by simpa using hle)
theorem sem_draws : ∀ ns, P63 ns → (nSeq (sSetO 1 (eLs eA0))
    (nSeq (sFor (iSq 0) (gN 2) (sSeq (sSet (gN 3) (eCall dAbs (eAc (eV 2) eA0)))
    (sSeq (sIf (tE (eB dLt (eV 3) (eB dPow (eC (.int 10)) (eC (.int 18))))) (sSeq (sSet (gN 4) (eB dModI (eCall dInt (eAc (eB dAdd (eB dMul (eV 3) (eC (.int 48271))) (eC (.int 11))) eA0)) (eC (.int 2147483647))))
    (sSeq (sApp 1 (eB dModI (eCall dInt (eAc (eB dAdd (eB dMul (eV 4) (eC (.int 69621))) (eV 3)) eA0)) (eC (.int 2147483629))))
    (sSeq (sApp 1 (eB dModI (eCall dInt (eAc (eB dAdd (eV 4) (eB dDiv (eV 3) (eC (.int 7)))) eA0)) (eC (.int 1000003))))
    (sSet (gN 3) (eC (.int 0)))))) sNil)
    (sFor (iR1 (eAc (eC (.int 60)) eA0)) (gN 5) (sIf (tE (eB dGt (eV 3) (eC (.int 0)))) (sSeq (sApp 1 (eB dModI (eCall dInt (eAc (eV 3) eA0)) (eC (.int 997))))
    (sSet (gN 3) (eB dDiv (eV 3) (eC (.int 997))))) sNil)))))
    (nSeq (sSet (gN 6) (eC (.int 1)))
    (nSeq (sIf (tE (eB dGt (eLenS 0) (eC (.int 0)))) (sSet (gN 6) (eB dAdd (eC (.int 1)) (eCall dAbs (eAc (eIxS 0 (eC (.int 0))) eA0)))) sNil)
    (nSeq (sFor (iR1 (eAc (eC (.int 900)) eA0)) (gN 5) (sSeq (sSet (gN 6) (eB dModI (eCall dInt (eAc (eB dAdd (eB dMul (eV 6) (eC (.int 48271))) (eC (.int 69621))) eA0)) (eC (.int 2147483647))))
    (sApp 1 (eB dDiv (eV 6) (eC (.int 5))))))
    (nRet (eRevO 1))))))) (envS ["script", "draws", "cell", "number", "first", "k", "seed"] ns) IntL := by
  intro ns hns
  unfold P63 at hns
  simp only [eC_ap, eV_ap, eB_ap, eU_ap, eAnd_ap, eOr_ap, tE_ap, tAnd_ap, tOr_ap, tNot_ap, eIf_ap, eCh_ap, eA0_ap, eAc_ap, eAs_ap, eTup_ap, eLs_ap, eOfL_ap, eIxO_ap, eP0_ap, ePs_ap, eSl_ap, iW_ap, iR1_ap, iR2_ap, iZp_ap, gN_ap, gNilD_ap, gConsD_ap, gTupD_ap, cYes_ap, sNil_ap, sSeq_ap, sIf_ap, sRet_ap, sRetN_ap, sSet_ap, sSetO_ap, sExp_ap, sBrk_ap, sCont_ap, sApp_ap, ePop_ap, sPut_ap, eCall_ap, eCallO_ap, eLenO_ap, sDk0_ap, sDput_ap, eSrtDk_ap, eDget_ap, eDin_ap, eRevO_ap, eLenS_ap, eIxS_ap, iSq_ap, nSeq_ap, nRet_ap, sDraws_ap, sAug_ap, sPar_ap, unE, reE, keepF, dIs, dNot, dNeg, dIsT, isTy, tyOf, rets, retsO, List.getElem?_cons_zero, List.getElem?_cons_succ, List.set_cons_zero, List.set_cons_succ, List.length_cons, List.length_nil, List.length_map, List.length_set, Nat.reduceAdd, Nat.reduceSub, Nat.reduceLT, Nat.reduceLeDiff, dAdd_i, dAdd_l, dAdd_t, dSub_i, dMul_i, dDiv_i, dModI_i, dLt_i, dLe_i, dGt_i, dGe_i, dEq_i, dNe_i, dEq_b, dNe_b, if_true, if_false, decide_true, decide_false, Bool.false_eq_true, Bool.not_true, Bool.not_false, and_true, true_and, and_self, or_true, true_or, reduceIte, Int.reduceNeg, Int.reducePow, Int.reduceLT, Int.reduceLE, Int.reduceGT, Int.reduceAdd, Int.reduceMul, Int.reduceSub, Int.reduceToNat, Nat.reducePow, Nat.reduceMul, Nat.reduceEqDiff, Int.reduceBEq, or_self, and_false, false_and, false_or, or_false, Bool.and_true, Bool.true_and, Bool.and_false, Bool.false_and, Bool.and_self, List.length_append, dAbs_i, Int.cast_ofNat_Int, beq_self_eq_true, String.reduceBEq, zip_l, zip_t, walk_l, walk_t, items_l, items_t, dLen_l, dLen_t, dTuple_l, dTuple_t, dList_l, dList_t, dInt_i, dSl_l, dSl_t, dIsNot_b, envS, List.replicate_succ, List.replicate_zero]
  refine ⟨by simp, ?_⟩
  rw [sFor_ap]
  simp only [eC_ap, eV_ap, eB_ap, eU_ap, eAnd_ap, eOr_ap, tE_ap, tAnd_ap, tOr_ap, tNot_ap, eIf_ap, eCh_ap, eA0_ap, eAc_ap, eAs_ap, eTup_ap, eLs_ap, eOfL_ap, eIxO_ap, eP0_ap, ePs_ap, eSl_ap, iW_ap, iR1_ap, iR2_ap, iZp_ap, gN_ap, gNilD_ap, gConsD_ap, gTupD_ap, cYes_ap, sNil_ap, sSeq_ap, sIf_ap, sRet_ap, sRetN_ap, sSet_ap, sSetO_ap, sExp_ap, sBrk_ap, sCont_ap, sApp_ap, ePop_ap, sPut_ap, eCall_ap, eCallO_ap, eLenO_ap, sDk0_ap, sDput_ap, eSrtDk_ap, eDget_ap, eDin_ap, eRevO_ap, eLenS_ap, eIxS_ap, iSq_ap, nSeq_ap, nRet_ap, sDraws_ap, sAug_ap, sPar_ap, unE, reE, keepF, dIs, dNot, dNeg, dIsT, isTy, tyOf, rets, retsO, List.getElem?_cons_zero, List.getElem?_cons_succ, List.set_cons_zero, List.set_cons_succ, List.length_cons, List.length_nil, List.length_map, List.length_set, Nat.reduceAdd, Nat.reduceSub, Nat.reduceLT, Nat.reduceLeDiff, dAdd_i, dAdd_l, dAdd_t, dSub_i, dMul_i, dDiv_i, dModI_i, dLt_i, dLe_i, dGt_i, dGe_i, dEq_i, dNe_i, dEq_b, dNe_b, if_true, if_false, decide_true, decide_false, Bool.false_eq_true, Bool.not_true, Bool.not_false, and_true, true_and, and_self, or_true, true_or, reduceIte, Int.reduceNeg, Int.reducePow, Int.reduceLT, Int.reduceLE, Int.reduceGT, Int.reduceAdd, Int.reduceMul, Int.reduceSub, Int.reduceToNat, Nat.reducePow, Nat.reduceMul, Nat.reduceEqDiff, Int.reduceBEq, or_self, and_false, false_and, false_or, or_false, Bool.and_true, Bool.true_and, Bool.and_false, Bool.false_and, Bool.and_self, List.length_append, dAbs_i, Int.cast_ofNat_Int, beq_self_eq_true, String.reduceBEq, zip_l, zip_t, walk_l, walk_t, items_l, items_t, dLen_l, dLen_t, dTuple_l, dTuple_t, dList_l, dList_t, dInt_i, dSl_l, dSl_t, dIsNot_b]
  refine wFor_inv (fun r env => ∃ (l : List Int) (ks : List Int) (x2 x3 x4 x5 : SV), env = [.sq (ns.map .int), .ow none (l.map .int), x2, x3, x4, x5, .un] ∧ r = ks.map .int ∧ l.length + 62 * r.length ≤ 62 * 63) ?_ ?_ _ _ ⟨[], ns, .un, .un, .un, .un, rfl, rfl, by rw [List.length_map, List.length_nil]; omega⟩
  · rintro d r env ⟨l, ks, x2, x3, x4, x5, rfl, hks, hle⟩ K hK
    obtain ⟨k, ks', rfl, hr⟩ := int_of_map hks
    rw [List.length_cons] at hle
    refine ⟨_, rfl, ?_⟩
    have hlt : l.length < sizeLine := line_lt (by omega)
    have hlt2 : l.length + 1 < sizeLine := line_lt (by omega)
    have hp : dPow (.int 10) (.int 18) = some (.int 1000000000000000000) := by simp [dPow, d2I]
    simp only [eC_ap, eV_ap, eB_ap, eU_ap, eAnd_ap, eOr_ap, tE_ap, tAnd_ap, tOr_ap, tNot_ap, eIf_ap, eCh_ap, eA0_ap, eAc_ap, eAs_ap, eTup_ap, eLs_ap, eOfL_ap, eIxO_ap, eP0_ap, ePs_ap, eSl_ap, iW_ap, iR1_ap, iR2_ap, iZp_ap, gN_ap, gNilD_ap, gConsD_ap, gTupD_ap, cYes_ap, sNil_ap, sSeq_ap, sIf_ap, sRet_ap, sRetN_ap, sSet_ap, sSetO_ap, sExp_ap, sBrk_ap, sCont_ap, sApp_ap, ePop_ap, sPut_ap, eCall_ap, eCallO_ap, eLenO_ap, sDk0_ap, sDput_ap, eSrtDk_ap, eDget_ap, eDin_ap, eRevO_ap, eLenS_ap, eIxS_ap, iSq_ap, nSeq_ap, nRet_ap, sDraws_ap, sAug_ap, sPar_ap, unE, reE, keepF, dIs, dNot, dNeg, dIsT, isTy, tyOf, rets, retsO, List.getElem?_cons_zero, List.getElem?_cons_succ, List.set_cons_zero, List.set_cons_succ, List.length_cons, List.length_nil, List.length_map, List.length_set, Nat.reduceAdd, Nat.reduceSub, Nat.reduceLT, Nat.reduceLeDiff, dAdd_i, dAdd_l, dAdd_t, dSub_i, dMul_i, dDiv_i, dModI_i, dLt_i, dLe_i, dGt_i, dGe_i, dEq_i, dNe_i, dEq_b, dNe_b, if_true, if_false, decide_true, decide_false, Bool.false_eq_true, Bool.not_true, Bool.not_false, and_true, true_and, and_self, or_true, true_or, reduceIte, Int.reduceNeg, Int.reducePow, Int.reduceLT, Int.reduceLE, Int.reduceGT, Int.reduceAdd, Int.reduceMul, Int.reduceSub, Int.reduceToNat, Nat.reducePow, Nat.reduceMul, Nat.reduceEqDiff, Int.reduceBEq, or_self, and_false, false_and, false_or, or_false, Bool.and_true, Bool.true_and, Bool.and_false, Bool.false_and, Bool.and_self, List.length_append, dAbs_i, Int.cast_ofNat_Int, beq_self_eq_true, String.reduceBEq, zip_l, zip_t, walk_l, walk_t, items_l, items_t, dLen_l, dLen_t, dTuple_l, dTuple_t, dList_l, dList_t, dInt_i, dSl_l, dSl_t, dIsNot_b, hp]
    generalize hz : (if k < 0 then -k else k) = z
    by_cases hn : z < 1000000000000000000
    · simp only [eC_ap, eV_ap, eB_ap, eU_ap, eAnd_ap, eOr_ap, tE_ap, tAnd_ap, tOr_ap, tNot_ap, eIf_ap, eCh_ap, eA0_ap, eAc_ap, eAs_ap, eTup_ap, eLs_ap, eOfL_ap, eIxO_ap, eP0_ap, ePs_ap, eSl_ap, iW_ap, iR1_ap, iR2_ap, iZp_ap, gN_ap, gNilD_ap, gConsD_ap, gTupD_ap, cYes_ap, sNil_ap, sSeq_ap, sIf_ap, sRet_ap, sRetN_ap, sSet_ap, sSetO_ap, sExp_ap, sBrk_ap, sCont_ap, sApp_ap, ePop_ap, sPut_ap, eCall_ap, eCallO_ap, eLenO_ap, sDk0_ap, sDput_ap, eSrtDk_ap, eDget_ap, eDin_ap, eRevO_ap, eLenS_ap, eIxS_ap, iSq_ap, nSeq_ap, nRet_ap, sDraws_ap, sAug_ap, sPar_ap, unE, reE, keepF, dIs, dNot, dNeg, dIsT, isTy, tyOf, rets, retsO, List.getElem?_cons_zero, List.getElem?_cons_succ, List.set_cons_zero, List.set_cons_succ, List.length_cons, List.length_nil, List.length_map, List.length_set, Nat.reduceAdd, Nat.reduceSub, Nat.reduceLT, Nat.reduceLeDiff, dAdd_i, dAdd_l, dAdd_t, dSub_i, dMul_i, dDiv_i, dModI_i, dLt_i, dLe_i, dGt_i, dGe_i, dEq_i, dNe_i, dEq_b, dNe_b, if_true, if_false, decide_true, decide_false, Bool.false_eq_true, Bool.not_true, Bool.not_false, and_true, true_and, and_self, or_true, true_or, reduceIte, Int.reduceNeg, Int.reducePow, Int.reduceLT, Int.reduceLE, Int.reduceGT, Int.reduceAdd, Int.reduceMul, Int.reduceSub, Int.reduceToNat, Nat.reducePow, Nat.reduceMul, Nat.reduceEqDiff, Int.reduceBEq, or_self, and_false, false_and, false_or, or_false, Bool.and_true, Bool.true_and, Bool.and_false, Bool.false_and, Bool.and_self, List.length_append, dAbs_i, Int.cast_ofNat_Int, beq_self_eq_true, String.reduceBEq, zip_l, zip_t, walk_l, walk_t, items_l, items_t, dLen_l, dLen_t, dTuple_l, dTuple_t, dList_l, dList_t, dInt_i, dSl_l, dSl_t, dIsNot_b, hn, hlt, hlt2, app_int]
      have hl2 : (l ++ [((z * 48271 + 11) % 2147483647 * 69621 + z) % 2147483629] ++ [((z * 48271 + 11) % 2147483647 + z / 7) % 1000003]).length = l.length + 2 := by
        rw [List.length_append, List.length_append, List.length_singleton, List.length_singleton]
      generalize l ++ [((z * 48271 + 11) % 2147483647 * 69621 + z) % 2147483629] ++ [((z * 48271 + 11) % 2147483647 + z / 7) % 1000003] = l2 at hl2 ⊢
      have hb : l2.length ≤ 100000 := by clear hz hn hp hks; omega
      have key := fun n => sem_peel (.sq (ns.map .int)) (.fz (.int k)) (.fz (.int ((z * 48271 + 11) % 2147483647))) .un n l2 hb
      refine key _ _ ?_ x5
      intro l3 n3 y5 h3
      exact hK _ ⟨l3, ks', _, _, _, _, rfl, hr, by omega⟩
    · simp only [eC_ap, eV_ap, eB_ap, eU_ap, eAnd_ap, eOr_ap, tE_ap, tAnd_ap, tOr_ap, tNot_ap, eIf_ap, eCh_ap, eA0_ap, eAc_ap, eAs_ap, eTup_ap, eLs_ap, eOfL_ap, eIxO_ap, eP0_ap, ePs_ap, eSl_ap, iW_ap, iR1_ap, iR2_ap, iZp_ap, gN_ap, gNilD_ap, gConsD_ap, gTupD_ap, cYes_ap, sNil_ap, sSeq_ap, sIf_ap, sRet_ap, sRetN_ap, sSet_ap, sSetO_ap, sExp_ap, sBrk_ap, sCont_ap, sApp_ap, ePop_ap, sPut_ap, eCall_ap, eCallO_ap, eLenO_ap, sDk0_ap, sDput_ap, eSrtDk_ap, eDget_ap, eDin_ap, eRevO_ap, eLenS_ap, eIxS_ap, iSq_ap, nSeq_ap, nRet_ap, sDraws_ap, sAug_ap, sPar_ap, unE, reE, keepF, dIs, dNot, dNeg, dIsT, isTy, tyOf, rets, retsO, List.getElem?_cons_zero, List.getElem?_cons_succ, List.set_cons_zero, List.set_cons_succ, List.length_cons, List.length_nil, List.length_map, List.length_set, Nat.reduceAdd, Nat.reduceSub, Nat.reduceLT, Nat.reduceLeDiff, dAdd_i, dAdd_l, dAdd_t, dSub_i, dMul_i, dDiv_i, dModI_i, dLt_i, dLe_i, dGt_i, dGe_i, dEq_i, dNe_i, dEq_b, dNe_b, if_true, if_false, decide_true, decide_false, Bool.false_eq_true, Bool.not_true, Bool.not_false, and_true, true_and, and_self, or_true, true_or, reduceIte, Int.reduceNeg, Int.reducePow, Int.reduceLT, Int.reduceLE, Int.reduceGT, Int.reduceAdd, Int.reduceMul, Int.reduceSub, Int.reduceToNat, Nat.reducePow, Nat.reduceMul, Nat.reduceEqDiff, Int.reduceBEq, or_self, and_false, false_and, false_or, or_false, Bool.and_true, Bool.true_and, Bool.and_false, Bool.false_and, Bool.and_self, List.length_append, dAbs_i, Int.cast_ofNat_Int, beq_self_eq_true, String.reduceBEq, zip_l, zip_t, walk_l, walk_t, items_l, items_t, dLen_l, dLen_t, dTuple_l, dTuple_t, dList_l, dList_t, dInt_i, dSl_l, dSl_t, dIsNot_b, hn]
      refine sem_peel _ _ _ _ z l ?_ _ ?_ x5
      · omega
      · intro l3 n3 y5 h3
        exact hK _ ⟨l3, ks', _, _, _, _, rfl, hr, by omega⟩
  · rintro env ⟨l, ks, x2, x3, x4, x5, rfl, _, hle⟩
    have tail : ∀ (z : Int), (sFor (iR1 (eAc (eC (.int 900)) eA0)) (gN 5) (sSeq (sSet (gN 6) (eB dModI (eCall dInt (eAc (eB dAdd (eB dMul (eV 6) (eC (.int 48271))) (eC (.int 69621))) eA0)) (eC (.int 2147483647))))
      (sApp 1 (eB dDiv (eV 6) (eC (.int 5)))))) [.sq (ns.map .int), .ow none (l.map .int), x2, x3, x4, x5, .fz (.int z)] (fun fl => match fl with
        | .nx e => nRet (eRevO 1) e IntL
        | _ => False) := by
      intro z
      rw [range1_ap _ (s62 (by decide) (by decide))]
      refine wFor_inv (fun r env => ∃ (l2 : List Int) (z : Int) (x5 : SV), env = [.sq (ns.map .int), .ow none (l2.map .int), x2, x3, x4, x5, .fz (.int z)] ∧ l2.length + r.length ≤ l.length + 900) ?_ ?_ _ _ ⟨l, z, x5, rfl, by rw [rng_len]; omega⟩
      · rintro d r env ⟨l2, z, y5, rfl, hle2⟩ K hK
        rw [List.length_cons] at hle2
        refine ⟨_, rfl, ?_⟩
        have hlt : l2.length < sizeLine := line_lt (by omega)
        simp only [eC_ap, eV_ap, eB_ap, eU_ap, eAnd_ap, eOr_ap, tE_ap, tAnd_ap, tOr_ap, tNot_ap, eIf_ap, eCh_ap, eA0_ap, eAc_ap, eAs_ap, eTup_ap, eLs_ap, eOfL_ap, eIxO_ap, eP0_ap, ePs_ap, eSl_ap, iW_ap, iR1_ap, iR2_ap, iZp_ap, gN_ap, gNilD_ap, gConsD_ap, gTupD_ap, cYes_ap, sNil_ap, sSeq_ap, sIf_ap, sRet_ap, sRetN_ap, sSet_ap, sSetO_ap, sExp_ap, sBrk_ap, sCont_ap, sApp_ap, ePop_ap, sPut_ap, eCall_ap, eCallO_ap, eLenO_ap, sDk0_ap, sDput_ap, eSrtDk_ap, eDget_ap, eDin_ap, eRevO_ap, eLenS_ap, eIxS_ap, iSq_ap, nSeq_ap, nRet_ap, sDraws_ap, sAug_ap, sPar_ap, unE, reE, keepF, dIs, dNot, dNeg, dIsT, isTy, tyOf, rets, retsO, List.getElem?_cons_zero, List.getElem?_cons_succ, List.set_cons_zero, List.set_cons_succ, List.length_cons, List.length_nil, List.length_map, List.length_set, Nat.reduceAdd, Nat.reduceSub, Nat.reduceLT, Nat.reduceLeDiff, dAdd_i, dAdd_l, dAdd_t, dSub_i, dMul_i, dDiv_i, dModI_i, dLt_i, dLe_i, dGt_i, dGe_i, dEq_i, dNe_i, dEq_b, dNe_b, if_true, if_false, decide_true, decide_false, Bool.false_eq_true, Bool.not_true, Bool.not_false, and_true, true_and, and_self, or_true, true_or, reduceIte, Int.reduceNeg, Int.reducePow, Int.reduceLT, Int.reduceLE, Int.reduceGT, Int.reduceAdd, Int.reduceMul, Int.reduceSub, Int.reduceToNat, Nat.reducePow, Nat.reduceMul, Nat.reduceEqDiff, Int.reduceBEq, or_self, and_false, false_and, false_or, or_false, Bool.and_true, Bool.true_and, Bool.and_false, Bool.false_and, Bool.and_self, List.length_append, dAbs_i, Int.cast_ofNat_Int, beq_self_eq_true, String.reduceBEq, zip_l, zip_t, walk_l, walk_t, items_l, items_t, dLen_l, dLen_t, dTuple_l, dTuple_t, dList_l, dList_t, dInt_i, dSl_l, dSl_t, dIsNot_b, hlt, app_int]
        exact hK _ ⟨_, _, _, rfl, by simp; omega⟩
      · rintro env ⟨l2, z, y5, rfl, hle2⟩
        simp only [eC_ap, eV_ap, eB_ap, eU_ap, eAnd_ap, eOr_ap, tE_ap, tAnd_ap, tOr_ap, tNot_ap, eIf_ap, eCh_ap, eA0_ap, eAc_ap, eAs_ap, eTup_ap, eLs_ap, eOfL_ap, eIxO_ap, eP0_ap, ePs_ap, eSl_ap, iW_ap, iR1_ap, iR2_ap, iZp_ap, gN_ap, gNilD_ap, gConsD_ap, gTupD_ap, cYes_ap, sNil_ap, sSeq_ap, sIf_ap, sRet_ap, sRetN_ap, sSet_ap, sSetO_ap, sExp_ap, sBrk_ap, sCont_ap, sApp_ap, ePop_ap, sPut_ap, eCall_ap, eCallO_ap, eLenO_ap, sDk0_ap, sDput_ap, eSrtDk_ap, eDget_ap, eDin_ap, eRevO_ap, eLenS_ap, eIxS_ap, iSq_ap, nSeq_ap, nRet_ap, sDraws_ap, sAug_ap, sPar_ap, unE, reE, keepF, dIs, dNot, dNeg, dIsT, isTy, tyOf, rets, retsO, List.getElem?_cons_zero, List.getElem?_cons_succ, List.set_cons_zero, List.set_cons_succ, List.length_cons, List.length_nil, List.length_map, List.length_set, Nat.reduceAdd, Nat.reduceSub, Nat.reduceLT, Nat.reduceLeDiff, dAdd_i, dAdd_l, dAdd_t, dSub_i, dMul_i, dDiv_i, dModI_i, dLt_i, dLe_i, dGt_i, dGe_i, dEq_i, dNe_i, dEq_b, dNe_b, if_true, if_false, decide_true, decide_false, Bool.false_eq_true, Bool.not_true, Bool.not_false, and_true, true_and, and_self, or_true, true_or, reduceIte, Int.reduceNeg, Int.reducePow, Int.reduceLT, Int.reduceLE, Int.reduceGT, Int.reduceAdd, Int.reduceMul, Int.reduceSub, Int.reduceToNat, Nat.reducePow, Nat.reduceMul, Nat.reduceEqDiff, Int.reduceBEq, or_self, and_false, false_and, false_or, or_false, Bool.and_true, Bool.true_and, Bool.and_false, Bool.false_and, Bool.and_self, List.length_append, dAbs_i, Int.cast_ofNat_Int, beq_self_eq_true, String.reduceBEq, zip_l, zip_t, walk_l, walk_t, items_l, items_t, dLen_l, dLen_t, dTuple_l, dTuple_t, dList_l, dList_t, dInt_i, dSl_l, dSl_t, dIsNot_b]
        exact ⟨l2.reverse, by simp⟩
    simp only [eC_ap, eV_ap, eB_ap, eU_ap, eAnd_ap, eOr_ap, tE_ap, tAnd_ap, tOr_ap, tNot_ap, eIf_ap, eCh_ap, eA0_ap, eAc_ap, eAs_ap, eTup_ap, eLs_ap, eOfL_ap, eIxO_ap, eP0_ap, ePs_ap, eSl_ap, iW_ap, iR1_ap, iR2_ap, iZp_ap, gN_ap, gNilD_ap, gConsD_ap, gTupD_ap, cYes_ap, sNil_ap, sSeq_ap, sIf_ap, sRet_ap, sRetN_ap, sSet_ap, sSetO_ap, sExp_ap, sBrk_ap, sCont_ap, sApp_ap, ePop_ap, sPut_ap, eCall_ap, eCallO_ap, eLenO_ap, sDk0_ap, sDput_ap, eSrtDk_ap, eDget_ap, eDin_ap, eRevO_ap, eLenS_ap, eIxS_ap, iSq_ap, nSeq_ap, nRet_ap, sDraws_ap, sAug_ap, sPar_ap, unE, reE, keepF, dIs, dNot, dNeg, dIsT, isTy, tyOf, rets, retsO, List.getElem?_cons_zero, List.getElem?_cons_succ, List.set_cons_zero, List.set_cons_succ, List.length_cons, List.length_nil, List.length_map, List.length_set, Nat.reduceAdd, Nat.reduceSub, Nat.reduceLT, Nat.reduceLeDiff, dAdd_i, dAdd_l, dAdd_t, dSub_i, dMul_i, dDiv_i, dModI_i, dLt_i, dLe_i, dGt_i, dGe_i, dEq_i, dNe_i, dEq_b, dNe_b, if_true, if_false, decide_true, decide_false, Bool.false_eq_true, Bool.not_true, Bool.not_false, and_true, true_and, and_self, or_true, true_or, reduceIte, Int.reduceNeg, Int.reducePow, Int.reduceLT, Int.reduceLE, Int.reduceGT, Int.reduceAdd, Int.reduceMul, Int.reduceSub, Int.reduceToNat, Nat.reducePow, Nat.reduceMul, Nat.reduceEqDiff, Int.reduceBEq, or_self, and_false, false_and, false_or, or_false, Bool.and_true, Bool.true_and, Bool.and_false, Bool.false_and, Bool.and_self, List.length_append, dAbs_i, Int.cast_ofNat_Int, beq_self_eq_true, String.reduceBEq, zip_l, zip_t, walk_l, walk_t, items_l, items_t, dLen_l, dLen_t, dTuple_l, dTuple_t, dList_l, dList_t, dInt_i, dSl_l, dSl_t, dIsNot_b]
    by_cases hn : (0 : Int) < (ns.length : Int)
    · cases ns with
      | nil => simp at hn
      | cons n0 nr =>
        have ha : atI (List.map PyData.int (n0 :: nr)) 0 = some (.int n0) := by simp [atI, ixN]
        have hn2 : (0 : Int) < ((nr.length + 1 : Nat) : Int) := by omega
        simp only [eC_ap, eV_ap, eB_ap, eU_ap, eAnd_ap, eOr_ap, tE_ap, tAnd_ap, tOr_ap, tNot_ap, eIf_ap, eCh_ap, eA0_ap, eAc_ap, eAs_ap, eTup_ap, eLs_ap, eOfL_ap, eIxO_ap, eP0_ap, ePs_ap, eSl_ap, iW_ap, iR1_ap, iR2_ap, iZp_ap, gN_ap, gNilD_ap, gConsD_ap, gTupD_ap, cYes_ap, sNil_ap, sSeq_ap, sIf_ap, sRet_ap, sRetN_ap, sSet_ap, sSetO_ap, sExp_ap, sBrk_ap, sCont_ap, sApp_ap, ePop_ap, sPut_ap, eCall_ap, eCallO_ap, eLenO_ap, sDk0_ap, sDput_ap, eSrtDk_ap, eDget_ap, eDin_ap, eRevO_ap, eLenS_ap, eIxS_ap, iSq_ap, nSeq_ap, nRet_ap, sDraws_ap, sAug_ap, sPar_ap, unE, reE, keepF, dIs, dNot, dNeg, dIsT, isTy, tyOf, rets, retsO, List.getElem?_cons_zero, List.getElem?_cons_succ, List.set_cons_zero, List.set_cons_succ, List.length_cons, List.length_nil, List.length_map, List.length_set, Nat.reduceAdd, Nat.reduceSub, Nat.reduceLT, Nat.reduceLeDiff, dAdd_i, dAdd_l, dAdd_t, dSub_i, dMul_i, dDiv_i, dModI_i, dLt_i, dLe_i, dGt_i, dGe_i, dEq_i, dNe_i, dEq_b, dNe_b, if_true, if_false, decide_true, decide_false, Bool.false_eq_true, Bool.not_true, Bool.not_false, and_true, true_and, and_self, or_true, true_or, reduceIte, Int.reduceNeg, Int.reducePow, Int.reduceLT, Int.reduceLE, Int.reduceGT, Int.reduceAdd, Int.reduceMul, Int.reduceSub, Int.reduceToNat, Nat.reducePow, Nat.reduceMul, Nat.reduceEqDiff, Int.reduceBEq, or_self, and_false, false_and, false_or, or_false, Bool.and_true, Bool.true_and, Bool.and_false, Bool.false_and, Bool.and_self, List.length_append, dAbs_i, Int.cast_ofNat_Int, beq_self_eq_true, String.reduceBEq, zip_l, zip_t, walk_l, walk_t, items_l, items_t, dLen_l, dLen_t, dTuple_l, dTuple_t, dList_l, dList_t, dInt_i, dSl_l, dSl_t, dIsNot_b, hn2, ha]
        exact tail _
    · simp only [eC_ap, eV_ap, eB_ap, eU_ap, eAnd_ap, eOr_ap, tE_ap, tAnd_ap, tOr_ap, tNot_ap, eIf_ap, eCh_ap, eA0_ap, eAc_ap, eAs_ap, eTup_ap, eLs_ap, eOfL_ap, eIxO_ap, eP0_ap, ePs_ap, eSl_ap, iW_ap, iR1_ap, iR2_ap, iZp_ap, gN_ap, gNilD_ap, gConsD_ap, gTupD_ap, cYes_ap, sNil_ap, sSeq_ap, sIf_ap, sRet_ap, sRetN_ap, sSet_ap, sSetO_ap, sExp_ap, sBrk_ap, sCont_ap, sApp_ap, ePop_ap, sPut_ap, eCall_ap, eCallO_ap, eLenO_ap, sDk0_ap, sDput_ap, eSrtDk_ap, eDget_ap, eDin_ap, eRevO_ap, eLenS_ap, eIxS_ap, iSq_ap, nSeq_ap, nRet_ap, sDraws_ap, sAug_ap, sPar_ap, unE, reE, keepF, dIs, dNot, dNeg, dIsT, isTy, tyOf, rets, retsO, List.getElem?_cons_zero, List.getElem?_cons_succ, List.set_cons_zero, List.set_cons_succ, List.length_cons, List.length_nil, List.length_map, List.length_set, Nat.reduceAdd, Nat.reduceSub, Nat.reduceLT, Nat.reduceLeDiff, dAdd_i, dAdd_l, dAdd_t, dSub_i, dMul_i, dDiv_i, dModI_i, dLt_i, dLe_i, dGt_i, dGe_i, dEq_i, dNe_i, dEq_b, dNe_b, if_true, if_false, decide_true, decide_false, Bool.false_eq_true, Bool.not_true, Bool.not_false, and_true, true_and, and_self, or_true, true_or, reduceIte, Int.reduceNeg, Int.reducePow, Int.reduceLT, Int.reduceLE, Int.reduceGT, Int.reduceAdd, Int.reduceMul, Int.reduceSub, Int.reduceToNat, Nat.reducePow, Nat.reduceMul, Nat.reduceEqDiff, Int.reduceBEq, or_self, and_false, false_and, false_or, or_false, Bool.and_true, Bool.true_and, Bool.and_false, Bool.false_and, Bool.and_self, List.length_append, dAbs_i, Int.cast_ofNat_Int, beq_self_eq_true, String.reduceBEq, zip_l, zip_t, walk_l, walk_t, items_l, items_t, dLen_l, dLen_t, dTuple_l, dTuple_t, dList_l, dList_t, dInt_i, dSl_l, dSl_t, dIsNot_b, hn]
      exact tail _
end DL

namespace DL
open PySem PySem.Spec PyProof.Rows L2 GxR
theorem fn_none {P : Program} {w : World} {K : PySem.W.Frag} {Tb : List Addr} {mg : Str → Option Value} {base : Heap} {f : Addr} {fd : FuncData} {ps : List Str} {n k : Nat} {mf : List D → Option D} (h : ∀ ds, mf ds = none) : FnOk P w K mg base CX0 k f fd ps (spD K Tb n mf) :=
  ⟨fun vs H Q E ⟨F, ds, d, _, _, _, hm, _⟩ => (by rw [h] at hm; cases hm), fun A outer s H args us vs Q E _ _ _ _ ⟨F, ds, d, _, _, _, hm, _⟩ => (by rw [h] at hm; cases hm)⟩
/-! ### is_number -/
def mf_is_number (ds : List D) : Option D := match ds with
  | [.int v, .int a, .int b] => some (.bool (decide (a ≤ v) && decide (v ≤ b)))
  | [.dict _, .int _, .int _] => none
  | [_, .int _, .int _] => some (.bool false)
  | _ => none
theorem sem_number : ∀ ds d, ds.length = 3 → mf_is_number ds = some d → (sRet (eAnd (eU (dIsT "int") (eV 0)) (eAnd (eU dNot (eU (dIsT "bool") (eV 0))) (eCh dLe dLe (eV 1) (eV 0) (eV 2))))) (env0 ["value", "least", "most"] ds) (rets d) := by
  intro ds d hl hm
  match ds, hl with
  | [x, y, z], _ =>
    cases y <;> try (cases x <;> cases hm; done)
    cases z <;> try (cases x <;> cases hm; done)
    rename_i a b
    cases x <;> simp only [mf_is_number] at hm <;> try cases hm
    all_goals simp only [eC_ap, eV_ap, eB_ap, eU_ap, eAnd_ap, eOr_ap, tE_ap, tAnd_ap, tOr_ap, tNot_ap, eIf_ap, eCh_ap, eA0_ap, eAc_ap, eAs_ap, eTup_ap, eLs_ap, eOfL_ap, eIxO_ap, eP0_ap, ePs_ap, eSl_ap, iW_ap, iR1_ap, iR2_ap, iZp_ap, gN_ap, gNilD_ap, gConsD_ap, gTupD_ap, cYes_ap, sNil_ap, sSeq_ap, sIf_ap, sRet_ap, sRetN_ap, sSet_ap, sSetO_ap, sExp_ap, sBrk_ap, sCont_ap, sApp_ap, ePop_ap, sPut_ap, eCall_ap, eCallO_ap, eLenO_ap, sDk0_ap, sDput_ap, eSrtDk_ap, eDget_ap, eDin_ap, eRevO_ap, eLenS_ap, eIxS_ap, iSq_ap, nSeq_ap, nRet_ap, sDraws_ap, sAug_ap, sPar_ap, unE, reE, keepF, dIs, dNot, dNeg, dIsT, isTy, tyOf, rets, retsO, List.getElem?_cons_zero, List.getElem?_cons_succ, List.set_cons_zero, List.set_cons_succ, List.length_cons, List.length_nil, List.length_map, List.length_set, Nat.reduceAdd, Nat.reduceSub, Nat.reduceLT, Nat.reduceLeDiff, dAdd_i, dAdd_l, dAdd_t, dSub_i, dMul_i, dDiv_i, dModI_i, dLt_i, dLe_i, dGt_i, dGe_i, dEq_i, dNe_i, dEq_b, dNe_b, if_true, if_false, decide_true, decide_false, Bool.false_eq_true, Bool.not_true, Bool.not_false, and_true, true_and, and_self, or_true, true_or, reduceIte, Int.reduceNeg, Int.reducePow, Int.reduceLT, Int.reduceLE, Int.reduceGT, Int.reduceAdd, Int.reduceMul, Int.reduceSub, Int.reduceToNat, Nat.reducePow, Nat.reduceMul, Nat.reduceEqDiff, Int.reduceBEq, or_self, and_false, false_and, false_or, or_false, Bool.and_true, Bool.true_and, Bool.and_false, Bool.false_and, Bool.and_self, List.length_append, dAbs_i, Int.cast_ofNat_Int, beq_self_eq_true, String.reduceBEq, zip_l, zip_t, walk_l, walk_t, items_l, items_t, dLen_l, dLen_t, dTuple_l, dTuple_t, dList_l, dList_t, dInt_i, dSl_l, dSl_t, dIsNot_b, env0, List.map_cons, List.map_nil, List.cons_append, List.nil_append, List.replicate_zero, String.reduceBEq, beq_self_eq_true, Bool.or_true, Bool.or_false, Bool.true_or, Bool.false_or]
    rename_i v
    generalize decide ((_ : Int) ≤ _) = p
    cases p <;> rfl
/-! ### _law_same: of equal data -/
def okS : Nat → D → Prop
  | 0, _ => False
  | _ + 1, .none => True
  | _ + 1, .bool _ => True
  | _ + 1, .int _ => True
  | _ + 1, .str z => PyData.canLay0 (.str z) = true
  | n + 1, .list ds => (∀ d ∈ ds, okS n d) ∧ ds.length ≤ sizeLine
  | n + 1, .tuple ds => (∀ d ∈ ds, okS n d) ∧ ds.length ≤ sizeLine
  | _ + 1, .dict _ => False
open Classical in
noncomputable def mfSame (n : Nat) (ds : List D) : Option D := match ds with
  | [a, b] => if a = b ∧ okS n a then some (.bool true) else none
  | _ => none
theorem same_eq {n : Nat} {a : D} (h : okS n a) : mfSame n [a, a] = some (.bool true) := by
  unfold mfSame
  exact if_pos ⟨rfl, h⟩
theorem same_zero (ds : List D) : mfSame 0 ds = none := by
  unfold mfSame
  split
  · exact if_neg fun h => h.2
  · rfl
theorem small_len {n : Nat} (h : n ≤ sizeLine) : small62 (n : Int) = true := by
  rw [sizeLine_eq] at h
  exact small62_of (by omega) (by omega)
theorem atI_nat {α : Type} {xs : List α} {i : Nat} (h : i < xs.length) : atI xs (i : Int) = some xs[i] := by
  have h2 : ((i : Int) < (xs.length : Int)) := by omega
  simp [atI, ixN, h]
theorem rng_mem {a b : Int} {d : D} (h : d ∈ rng a b) : ∃ i : Int, d = .int i ∧ a ≤ i ∧ i < b := by
  unfold rng at h
  obtain ⟨n, hn, rfl⟩ := List.mem_map.mp h
  rw [List.mem_range] at hn
  exact ⟨_, rfl, by omega, by omega⟩
/-- a loop all of whose turns come to the same environment -/
theorem wFor_pass {g : GM} {b : SM} {Φ : Fl → Prop} (I : Ev → Prop) : ∀ (ds : List D) (env : Ev), I env → (∀ d ∈ ds, ∀ env, I env → ∀ K : Ev → Prop, (∀ e, I e → K e) → ∃ e1, g d env = some e1 ∧ b e1 (fun fl => match fl with
      | .nx e => K e
      | .ct e => K e
      | .bk e => Φ (.nx e)
      | .rt d e => Φ (.rt d e))) → (∀ env, I env → Φ (.nx env)) → wFor g b ds env Φ
  | [], env, h, _, fin => fin env h
  | d :: r, env, h, step, fin => by
    obtain ⟨e1, h1, h2⟩ := step d List.mem_cons_self env h _ fun e he => wFor_pass I r e he (fun x hx => step x (List.mem_cons_of_mem _ hx)) fin
    unfold wFor
    rw [h1]
    exact h2
theorem sem_same (n : Nat) : ∀ ds d, ds.length = 2 → mfSame (n + 1) ds = some d → (sSeq (sIf (tOr (tE (eB dIs (eV 1) (eC .none))) (tE (eB dIs (eV 0) (eC .none)))) (sRet (eAnd (eB dIs (eV 1) (eC .none)) (eB dIs (eV 0) (eC .none)))) sNil)
    (sSeq (sIf (tOr (tE (eU (dIsT "tuple") (eV 1))) (tE (eU (dIsT "list") (eV 1)))) (sSeq (sIf (tOr (tE (eB dNe (eU (dIsT "tuple") (eV 1)) (eU (dIsT "tuple") (eV 0)))) (tE (eB dNe (eU (dIsT "list") (eV 1)) (eU (dIsT "list") (eV 0))))) (sRet (eC (.bool false))) sNil)
    (sSeq (sIf (tE (eB dNe (eCall dLen (eAc (eV 0) eA0)) (eCall dLen (eAc (eV 1) eA0)))) (sRet (eC (.bool false))) sNil)
    (sSeq (sFor (iR1 (eAc (eCall dLen (eAc (eV 1) eA0)) eA0)) (gN 2) (sIf (tNot (tE (eCall (mfSame n) (eAc (eB dIx (eV 0) (eV 2)) (eAc (eB dIx (eV 1) (eV 2)) eA0))))) (sRet (eC (.bool false))) sNil))
    (sRet (eC (.bool true)))))) sNil)
    (sSeq (sIf (tE (eB dNe (eU (dIsT "bool") (eV 1)) (eU (dIsT "bool") (eV 0)))) (sRet (eC (.bool false))) sNil)
    (sSeq (sIf (tOr (tE (eB dNe (eU (dIsT "int") (eV 1)) (eU (dIsT "int") (eV 0)))) (tE (eB dNe (eU (dIsT "str") (eV 1)) (eU (dIsT "str") (eV 0))))) (sRet (eC (.bool false))) sNil)
    (sRet (eB dEq (eV 0) (eV 1))))))) (env0 ["actual", "due", "k"] ds) (rets d) := by
  intro ds d hl hm
  match ds, hl with
  | [a, b], _ =>
    unfold mfSame at hm
    simp only at hm
    split at hm
    · rename_i h
      obtain ⟨rfl, ok⟩ := h
      cases hm
      have e0 : (SV.fz a :: SV.fz a :: [SV.un] : Ev) = [.fz a, .fz a, .un] := rfl
      cases a <;> simp only [okS] at ok
      all_goals simp only [eC_ap, eV_ap, eB_ap, eU_ap, eAnd_ap, eOr_ap, tE_ap, tAnd_ap, tOr_ap, tNot_ap, eIf_ap, eCh_ap, eA0_ap, eAc_ap, eAs_ap, eTup_ap, eLs_ap, eOfL_ap, eIxO_ap, eP0_ap, ePs_ap, eSl_ap, iW_ap, iR1_ap, iR2_ap, iZp_ap, gN_ap, gNilD_ap, gConsD_ap, gTupD_ap, cYes_ap, sNil_ap, sSeq_ap, sIf_ap, sRet_ap, sRetN_ap, sSet_ap, sSetO_ap, sExp_ap, sBrk_ap, sCont_ap, sApp_ap, ePop_ap, sPut_ap, eCall_ap, eCallO_ap, eLenO_ap, sDk0_ap, sDput_ap, eSrtDk_ap, eDget_ap, eDin_ap, eRevO_ap, eLenS_ap, eIxS_ap, iSq_ap, nSeq_ap, nRet_ap, sDraws_ap, sAug_ap, sPar_ap, unE, reE, keepF, dIs, dNot, dNeg, dIsT, isTy, tyOf, rets, retsO, List.getElem?_cons_zero, List.getElem?_cons_succ, List.set_cons_zero, List.set_cons_succ, List.length_cons, List.length_nil, List.length_map, List.length_set, Nat.reduceAdd, Nat.reduceSub, Nat.reduceLT, Nat.reduceLeDiff, dAdd_i, dAdd_l, dAdd_t, dSub_i, dMul_i, dDiv_i, dModI_i, dLt_i, dLe_i, dGt_i, dGe_i, dEq_i, dNe_i, dEq_b, dNe_b, if_true, if_false, decide_true, decide_false, Bool.false_eq_true, Bool.not_true, Bool.not_false, and_true, true_and, and_self, or_true, true_or, reduceIte, Int.reduceNeg, Int.reducePow, Int.reduceLT, Int.reduceLE, Int.reduceGT, Int.reduceAdd, Int.reduceMul, Int.reduceSub, Int.reduceToNat, Nat.reducePow, Nat.reduceMul, Nat.reduceEqDiff, Int.reduceBEq, or_self, and_false, false_and, false_or, or_false, Bool.and_true, Bool.true_and, Bool.and_false, Bool.false_and, Bool.and_self, List.length_append, dAbs_i, Int.cast_ofNat_Int, beq_self_eq_true, String.reduceBEq, zip_l, zip_t, walk_l, walk_t, items_l, items_t, dLen_l, dLen_t, dTuple_l, dTuple_t, dList_l, dList_t, dInt_i, dSl_l, dSl_t, dIsNot_b, env0, List.map_cons, List.map_nil, List.cons_append, List.nil_append, List.replicate_succ, List.replicate_zero, String.reduceBEq, beq_self_eq_true, Bool.or_true, Bool.or_false, Bool.true_or, Bool.false_or]
      · rename_i z _
        have e1 : dEq (.str z) (.str z) = some (.bool true) := by
          have h1 : SeqAt.shaped (.str z) = true := by
            unfold SeqAt.shaped
            rw [ok]
            rfl
          unfold dEq
          rw [h1, SeqAt.eqv_refl _ ok]
          rfl
        simp only [e1]
      all_goals
        rename_i xs _
        rw [sFor_ap]
        simp only [eC_ap, eV_ap, eB_ap, eU_ap, eAnd_ap, eOr_ap, tE_ap, tAnd_ap, tOr_ap, tNot_ap, eIf_ap, eCh_ap, eA0_ap, eAc_ap, eAs_ap, eTup_ap, eLs_ap, eOfL_ap, eIxO_ap, eP0_ap, ePs_ap, eSl_ap, iW_ap, iR1_ap, iR2_ap, iZp_ap, gN_ap, gNilD_ap, gConsD_ap, gTupD_ap, cYes_ap, sNil_ap, sSeq_ap, sIf_ap, sRet_ap, sRetN_ap, sSet_ap, sSetO_ap, sExp_ap, sBrk_ap, sCont_ap, sApp_ap, ePop_ap, sPut_ap, eCall_ap, eCallO_ap, eLenO_ap, sDk0_ap, sDput_ap, eSrtDk_ap, eDget_ap, eDin_ap, eRevO_ap, eLenS_ap, eIxS_ap, iSq_ap, nSeq_ap, nRet_ap, sDraws_ap, sAug_ap, sPar_ap, unE, reE, keepF, dIs, dNot, dNeg, dIsT, isTy, tyOf, rets, retsO, List.getElem?_cons_zero, List.getElem?_cons_succ, List.set_cons_zero, List.set_cons_succ, List.length_cons, List.length_nil, List.length_map, List.length_set, Nat.reduceAdd, Nat.reduceSub, Nat.reduceLT, Nat.reduceLeDiff, dAdd_i, dAdd_l, dAdd_t, dSub_i, dMul_i, dDiv_i, dModI_i, dLt_i, dLe_i, dGt_i, dGe_i, dEq_i, dNe_i, dEq_b, dNe_b, if_true, if_false, decide_true, decide_false, Bool.false_eq_true, Bool.not_true, Bool.not_false, and_true, true_and, and_self, or_true, true_or, reduceIte, Int.reduceNeg, Int.reducePow, Int.reduceLT, Int.reduceLE, Int.reduceGT, Int.reduceAdd, Int.reduceMul, Int.reduceSub, Int.reduceToNat, Nat.reducePow, Nat.reduceMul, Nat.reduceEqDiff, Int.reduceBEq, or_self, and_false, false_and, false_or, or_false, Bool.and_true, Bool.true_and, Bool.and_false, Bool.false_and, Bool.and_self, List.length_append, dAbs_i, Int.cast_ofNat_Int, beq_self_eq_true, String.reduceBEq, zip_l, zip_t, walk_l, walk_t, items_l, items_t, dLen_l, dLen_t, dTuple_l, dTuple_t, dList_l, dList_t, dInt_i, dSl_l, dSl_t, dIsNot_b, small_len ok.2]
        refine wFor_pass (fun env => ∃ x2, env = [SV.fz _, SV.fz _, x2]) _ _ ⟨.un, rfl⟩ ?_ fun env _ => trivial
        rintro d hd env ⟨x2, rfl⟩ K hK
        obtain ⟨i, rfl, h0, h1⟩ := rng_mem hd
        obtain ⟨m, rfl⟩ : ∃ m : Nat, i = (m : Int) := ⟨i.toNat, by omega⟩
        have hm : m < xs.length := by omega
        refine ⟨_, rfl, ?_⟩
        have e1 := atI_nat hm
        have e2 := same_eq (ok.1 _ (List.getElem_mem hm))
        simp only [eC_ap, eV_ap, eB_ap, eU_ap, eAnd_ap, eOr_ap, tE_ap, tAnd_ap, tOr_ap, tNot_ap, eIf_ap, eCh_ap, eA0_ap, eAc_ap, eAs_ap, eTup_ap, eLs_ap, eOfL_ap, eIxO_ap, eP0_ap, ePs_ap, eSl_ap, iW_ap, iR1_ap, iR2_ap, iZp_ap, gN_ap, gNilD_ap, gConsD_ap, gTupD_ap, cYes_ap, sNil_ap, sSeq_ap, sIf_ap, sRet_ap, sRetN_ap, sSet_ap, sSetO_ap, sExp_ap, sBrk_ap, sCont_ap, sApp_ap, ePop_ap, sPut_ap, eCall_ap, eCallO_ap, eLenO_ap, sDk0_ap, sDput_ap, eSrtDk_ap, eDget_ap, eDin_ap, eRevO_ap, eLenS_ap, eIxS_ap, iSq_ap, nSeq_ap, nRet_ap, sDraws_ap, sAug_ap, sPar_ap, unE, reE, keepF, dIs, dNot, dNeg, dIsT, isTy, tyOf, rets, retsO, List.getElem?_cons_zero, List.getElem?_cons_succ, List.set_cons_zero, List.set_cons_succ, List.length_cons, List.length_nil, List.length_map, List.length_set, Nat.reduceAdd, Nat.reduceSub, Nat.reduceLT, Nat.reduceLeDiff, dAdd_i, dAdd_l, dAdd_t, dSub_i, dMul_i, dDiv_i, dModI_i, dLt_i, dLe_i, dGt_i, dGe_i, dEq_i, dNe_i, dEq_b, dNe_b, if_true, if_false, decide_true, decide_false, Bool.false_eq_true, Bool.not_true, Bool.not_false, and_true, true_and, and_self, or_true, true_or, reduceIte, Int.reduceNeg, Int.reducePow, Int.reduceLT, Int.reduceLE, Int.reduceGT, Int.reduceAdd, Int.reduceMul, Int.reduceSub, Int.reduceToNat, Nat.reducePow, Nat.reduceMul, Nat.reduceEqDiff, Int.reduceBEq, or_self, and_false, false_and, false_or, or_false, Bool.and_true, Bool.true_and, Bool.and_false, Bool.false_and, Bool.and_self, List.length_append, dAbs_i, Int.cast_ofNat_Int, beq_self_eq_true, String.reduceBEq, zip_l, zip_t, walk_l, walk_t, items_l, items_t, dLen_l, dLen_t, dTuple_l, dTuple_t, dList_l, dList_t, dInt_i, dSl_l, dSl_t, dIsNot_b, dIx, e1, e2]
        exact hK _ ⟨_, rfl⟩
    · cases hm
end DL

namespace DL
open PySem PySem.Spec PyProof.Rows L2 GxR
theorem len1 {ds : List D} (h : ds.length = 1) : ∃ v, ds = [v] := match ds, h with
  | [v], _ => ⟨v, rfl⟩
theorem len2 {ds : List D} (h : ds.length = 2) : ∃ v u, ds = [v, u] := match ds, h with
  | [v, u], _ => ⟨v, u, rfl⟩
theorem len3 {ds : List D} (h : ds.length = 3) : ∃ v u w, ds = [v, u, w] := match ds, h with
  | [v, u, w], _ => ⟨v, u, w, rfl⟩
/-! ### slices, digits, numbers as data -/
theorem cut_take {xs : List D} (p : Nat) : cutD xs none (some (p : Int)) = xs.take p := by
  unfold cutD
  rw [HT.sIx_none, HT.sIx_nat, List.drop_zero, Nat.sub_zero]
  by_cases h : p ≤ xs.length
  · rw [Nat.min_eq_left h]
  · rw [Nat.min_eq_right (by omega), List.take_of_length_le (Nat.le_refl _), List.take_of_length_le (by omega)]
theorem cut_drop {xs : List D} (p : Nat) : cutD xs (some (p : Int)) none = xs.drop p := by
  unfold cutD
  rw [HT.sIx_none, HT.sIx_nat]
  by_cases h : p ≤ xs.length
  · rw [Nat.min_eq_left h, List.take_of_length_le (by rw [List.length_drop]; exact Nat.le_refl _)]
  · rw [Nat.min_eq_right (by omega), List.drop_of_length_le (Nat.le_refl _), List.drop_of_length_le (by omega), List.take_nil]
theorem cut_init {xs : List D} : cutD xs none (some (-1)) = xs.dropLast := by
  unfold cutD
  have e : HT.sIx xs.length xs.length (some (-1)) = xs.length - 1 := by
    show (if (-1 : Int) < 0 then ((-1 : Int) + (xs.length : Int)).toNat else min (-1 : Int).toNat xs.length) = _
    rw [if_pos (by decide)]
    omega
  rw [HT.sIx_none, e, List.drop_zero, Nat.sub_zero, List.dropLast_eq_take]
def okItem : D → Bool
  | .dict _ => false
  | _ => true
def isNum (d : D) (a b : Int) : Bool := match d with
  | .int v => decide (a ≤ v) && decide (v ≤ b)
  | _ => false
theorem number_eq {d : D} {a b : Int} (h : okItem d = true) : mf_is_number [d, .int a, .int b] = some (.bool (isNum d a b)) := by
  cases d <;> first | rfl | cases h
def tupI (ns : List Int) : D := .tuple (ns.map .int)
def asTup : D → Option (List Int)
  | .tuple xs => intsOf xs
  | _ => none
theorem asTup_inv {d : D} {ns : List Int} (h : asTup d = some ns) : d = tupI ns := by
  cases d <;> simp only [asTup] at h <;> try cases h
  rw [intsOf_inv h]
  rfl
theorem asTup_eq (ns : List Int) : asTup (tupI ns) = some ns := intsOf_map ns
def dig (ns : List Int) : Bool := ns.all fun x => decide (0 ≤ x) && decide (x ≤ 9)
def dot (ns ws : List Int) : Int := ((ns.zip ws).map fun p => p.1 * p.2).sum
theorem dot_nil (ws : List Int) : dot [] ws = 0 := by unfold dot; simp
theorem dot_nil' (ns : List Int) : dot ns [] = 0 := by unfold dot; simp
theorem dot_cons (n w : Int) (ns ws : List Int) : dot (n :: ns) (w :: ws) = n * w + dot ns ws := by unfold dot; simp
theorem dot_snoc : ∀ (ns ws : List Int) (n w : Int), ns.length = ws.length → dot (ns ++ [n]) (ws ++ [w]) = dot ns ws + n * w
  | [], [], n, w, _ => by simp [dot]
  | x :: ns, y :: ws, n, w, h => by
    rw [List.cons_append, List.cons_append, dot_cons, dot_cons, dot_snoc ns ws n w (by simpa using h)]
    omega
theorem asI_get {ns : List Int} {p : Nat} (h : p < ns.length) : atI (ns.map PyData.int) (p : Int) = some (.int ns[p]) := by
  rw [atI_nat (by rw [List.length_map]; exact h), List.getElem_map]
end DL

namespace DL
open PySem PySem.Spec PyProof.Rows L2 GxR
/-! ### the end: tables of code objects of any def -/
abbrev Tabs (q : Program) (mg : Str → Option Value) (h : Heap) : Prop := ∀ d ∈ recsOf q, ∃ a o fd c P, mg d.name = some (.ref a) ∧ h.get? a = some o ∧ o.data = .func fd ∧ fd.code = .ref c ∧ h.IsCode c P #[] ∧ h.TableAt c P #[]
theorem tab_of {q : Program} {mg : Str → Option Value} {h : Heap} {K : PySem.W.Frag} {x : Str} {f c P : Addr} {oc : Value} {od : Option Addr} {fd : FuncData} {sl sl2 : Array (Option Value)} {e : Value} {dd : Option Addr} {vs : Array Value}
    (T : Tabs q mg h) (X : K.In h) (hx : ((recsOf q).any fun e => e.name == x) = true) (hm : mg x = some (.ref f)) (l : K.lookup f = some ⟨oc, od, .func fd, sl⟩) (hc : fd.code = .ref c) (l2 : K.lookup c = some ⟨e, dd, .fields vs, sl2⟩) (hv : vs[11]? = some (.ref P)) :
    h.get? P = some { cls := .none, data := .fields #[] } ∧ PySem.W.CodeHd h c P := by
  obtain ⟨d, hd, hn⟩ := List.any_eq_true.mp hx
  have hn2 : d.name = x := beq_iff_eq.mp hn
  obtain ⟨a', o', fd', c', P', h1, h2, h3, h4, h5, h6⟩ := T d hd
  rw [hn2, hm] at h1
  cases h1
  rw [X _ _ l] at h2
  cases h2
  cases h3
  rw [hc] at h4
  cases h4
  obtain ⟨⟨o2, v2, e1, e2, e3, e4⟩, hP⟩ := id h6
  rw [X _ _ l2] at e1
  cases e1
  cases e3
  rw [hv] at e4
  cases e4
  exact ⟨hP, PySem.W.CodeHd.of h5 h6⟩
theorem walk_tabs {l : PySem.W.OpenLaw} {n k : Nat} {q : Program} {loose : List Str} {XP : (Str → Option Value) → Heap → Prop} {YP : World → Heap → Prop} {d : DefRec} {K : Params → PySem.W.Frag} {x : Str}
    (hn : l.most = some n) (hn2 : n ≤ sizeLine) (hdf : d.params.defaults = []) (hr : Room k callerA) (hY : ∀ (w : World) (h : Heap), YP w h → (K w.params).In h)
    (F : ∀ (w : World) (mg : Str → Option Value) (fa : Addr) (h : Heap), (K w.params).In h → h.Ns mainGlobals mg → mg d.name = some (.ref fa) → Tabs q mg h → LamX.LawAtS l w (K w.params) CX0 k n x mg fa h) :
    PySem.W.WalkO q loose XP YP l.row.toRowW d [] (fun f vs => PySem.call f vs) := by
  refine Att.attach_callB hn hdf fun w s₀ s₁ mg mb fa o pm cd doc a vs ns G Y ho hd hcd hmg hobj hints hlen hbits hg => ?_
  obtain ⟨fd, cs, sp, hT, nT, C, hb, hsp, hF⟩ := F w mg fa _ (hY w _ Y) G.T.g hmg G.T.tab
  exact LamX.law_callTs (hY w _ Y) G.T.g G.T.b G.T.builtins G.T.nolimit hg hT nT C G.T.bmain hobj hints (Nat.le_trans hlen hn2) hr hF hb (fun H hH hS => hsp H a ns hlen hbits hH hS) fun H e s' hx => hx
theorem tabG {base : Heap} {mg : Str → Option Value} {c P : Addr} (t : LamX.TabB base mg c P) : GxR.TabB base mg c P := ⟨t.code, t.bm, t.gP⟩
/-- the law's promise at the start -/
theorem law_start {K : PySem.W.Frag} {Tb : List Addr} {H : Hp} {a : Addr} {ns : List Int} {Pn : List Int → Prop} {E : XK} (hp : Pn ns) (hT : ∀ P ∈ Tb, H P = some (.tbl #[])) (hS : SqL K H a (ns.map V.int)) : spLaw K Tb Pn [.ref a] H (fun v _ => v = .bl true) E := by
  have tab : ∀ P ∈ Tb, TabG H P := fun P hP => ⟨#[], hT P hP, (by first | exact trivial | constructor | simp [TriplesOk])⟩
  rcases hS with hR | hK
  · have key : ∀ u, H a = some u → NT u → SqL K (fun b => if b = a then H a else none) a (ns.map V.int) → spLaw K Tb Pn [.ref a] H (fun v _ => v = .bl true) E := fun u hu hnt hq => by
      refine ⟨fun b => if b = a then H a else none, a, ns, rfl, ⟨fun b o e => ?_, fun b o e => ?_, tab⟩, hq, hp, fun H' => rfl⟩
      · by_cases hb : b = a
        · subst hb
          simpa using e
        · simp [hb] at e
      · by_cases hb : b = a
        · subst hb
          simp [hu] at e
          subst e
          exact hnt
        · simp [hb] at e
    rcases hR with h | ⟨o, h⟩
    · exact key _ h nt_lst (.inl (.inl (by simp [h])))
    · exact key _ h (fun ps z => by cases z) (.inl (.inr ⟨o, by simp [h]⟩))
  · exact ⟨fun _ => none, a, ns, rfl, ⟨fun b o e => (by cases e), fun b o e => (by cases e), tab⟩, .inr hK, hp, fun H' => rfl⟩
end DL

namespace K92
open PySem PySem.Spec PyProof.Rows L2 GxR DL
/-! ### what the defs compute -/
def sch (ws : List Int) (b : Int) : D := .tuple [tupI ws, .int b]
def asSch : D → Option (List Int × Int)
  | .tuple [.tuple ws, .int b] => match intsOf ws with
    | some ws => some (ws, b)
    | none => none
  | _ => none
theorem asSch_eq (ws : List Int) (b : Int) : asSch (sch ws b) = some (ws, b) := by
  unfold sch tupI asSch
  simp only [intsOf_map]
theorem asSch_inv {d : D} {ws : List Int} {b : Int} (h : asSch d = some (ws, b)) : d = sch ws b := by
  unfold asSch at h
  split at h
  · split at h
    · rename_i h1
      cases h
      rw [intsOf_inv h1]
      rfl
    · cases h
  · cases h
def isSch (v : D) : Bool := match v with
  | .tuple [.tuple ws, b] => decide (2 ≤ ws.length) && decide (ws.length ≤ 10) && ws.all (fun x => isNum x 1 96) && isNum b 2 97
  | _ => false
def okSch (v : D) : Bool := match v with
  | .tuple [.tuple ws, b] => ws.all okItem && okItem b
  | .tuple [.dict _, _] => false
  | .dict _ => false
  | _ => true
def mf_is_scheme (ds : List D) : Option D := match ds with
  | [v] => if okSch v then some (.bool (isSch v)) else none
  | _ => none
def isBar (n : Nat) (v : D) : Bool := match v with
  | .tuple xs => decide (xs.length = n) && xs.all (fun x => isNum x 0 9)
  | _ => false
def okBar (v : D) : Bool := match v with
  | .tuple xs => xs.all okItem
  | .dict _ => false
  | _ => true
def mf_is_bar_number (ds : List D) : Option D := match ds with
  | [s, v] => match asSch s with
    | some (ws, _) => if okBar v then some (.bool (isBar ws.length v)) else none
    | none => none
  | _ => none
def R (ws : List Int) (b : Int) (ns : List Int) : Bool := dot ns ws % b == 0
def mf_right (ds : List D) : Option D := match ds with
  | [s, n] => match asSch s with
    | some (ws, b) => match asTup n with
      | some ns => if 0 < b ∧ ns.length = ws.length ∧ ws.length ≤ 10 ∧ dig ns = true then some (.bool (R ws b ns)) else none
      | none => none
    | none => none
  | _ => none
def mf_is_right := mf_right
def mf__law_right := mf_right
def steps : List Int := [1, 2, 3, 4, 5, 6, 7, 8, 9]
def digits : List Int := [0, 1, 2, 3, 4, 5, 6, 7, 8, 9]
def wrongB (b w : Int) : Bool := steps.all fun k => !(w * k % b == 0)
def mf_shows_wrong (ds : List D) : Option D := match ds with
  | [s, .int p] => match asSch s with
    | some (ws, b) => if 0 < b ∧ 0 ≤ p then (match ws[p.toNat]? with
      | some w => some (.bool (wrongB b w))
      | none => none) else none
    | none => none
  | _ => none
def insK (ks : List Int) (r : Int) : List Int := if ks.any (fun k => decide (k = r)) then ks else ks ++ [r]
def keysOf (b w : Int) (found : List Int) : List Int := found.foldl (fun ks rest => digits.foldl (fun ks item => insK ks ((rest + item * w) % b)) ks) []
def restsOf (b : Int) (us : List Int) : List Int := us.foldl (fun found w => sortI (keysOf b w found)) [0]
def mf_rests_of (ds : List D) : Option D := match ds with
  | [s, u] => match asSch s with
    | some (_, b) => match asTup u with
      | some us => if 0 < b ∧ b ≤ 100 then some (.list ((restsOf b us).map .int)) else none
      | none => none
    | none => none
  | _ => none
def clash (b a c : Int) (rests : List Int) (i j : Int) : Bool := !(i == j) && ((i * a + j * c) % b == (j * a + i * c) % b) && rests.any (fun r => r == (b - (i * a + j * c) % b) % b)
def exchB (ws : List Int) (b : Int) (p : Nat) (a c : Int) : Bool := digits.all fun i => digits.all fun j => !(clash b a c (restsOf b (ws.take p ++ ws.drop (p + 2))) i j)
def mf_shows_exchange (ds : List D) : Option D := match ds with
  | [s, .int p] => match asSch s with
    | some (ws, b) => if 0 < b ∧ b ≤ 100 ∧ 0 ≤ p ∧ ws.length ≤ 10 then (match ws[p.toNat]?, ws[p.toNat + 1]? with
      | some a, some c => some (.bool (exchB ws b p.toNat a c))
      | _, _ => none) else none
    | none => none
  | _ => none
def markOf (ws : List Int) (b : Int) (is : List Int) : D := match digits.find? (fun i => R ws b (is ++ [i])) with
  | some i => .int i
  | none => .none
def mf_mark_for (ds : List D) : Option D := match ds with
  | [s, n] => match asSch s with
    | some (ws, b) => match asTup n with
      | some is => if 0 < b ∧ is.length + 1 = ws.length ∧ ws.length ≤ 10 ∧ dig is = true then some (markOf ws b is) else none
      | none => none
    | none => none
  | _ => none
noncomputable def mf__law_same := mfSame 2
def rowsOf : Nat → List (List Int)
  | 0 => [[]]
  | n + 1 => (rowsOf n).flatMap fun row => digits.map fun i => row ++ [i]
def mf__law_numbers (ds : List D) : Option D := match ds with
  | [s] => match asSch s with
    | some (ws, b) => if 0 < b ∧ ws.length ≤ 3 then some (.list (((rowsOf ws.length).filter (R ws b)).map tupI)) else none
    | none => none
  | _ => none
def mf__law_changed (ds : List D) : Option D := match ds with
  | [n, .int p, .int i] => match asTup n with
    | some ns => if 0 ≤ p ∧ ns.length ≤ 10 then some (tupI (ns.take p.toNat ++ [i] ++ ns.drop (p.toNat + 1))) else none
    | none => none
  | _ => none
end K92

namespace K92
open PySem PySem.Spec PyProof.Rows L2 GxR DL
/-! ### printed by gen.py -/
def top (i : Nat) : Stmt := PySem.Challenge.pw_coinstruck_k92_whole_check_marks.main.body.getD i (.Pass ⟨0, 0, 0, 0⟩)
abbrev st_is_number : Stmt := top 1
abbrev st_is_scheme : Stmt := top 4
abbrev st_is_bar_number : Stmt := top 5
abbrev st_is_right : Stmt := top 6
abbrev st_shows_wrong : Stmt := top 7
abbrev st_rests_of : Stmt := top 8
abbrev st_shows_exchange : Stmt := top 9
abbrev st_mark_for : Stmt := top 10
abbrev st__law_draws : Stmt := top 12
abbrev st__law_take : Stmt := top 13
abbrev st__law_same : Stmt := top 14
abbrev st__law_right : Stmt := top 15
abbrev st__law_numbers : Stmt := top 16
abbrev st__law_changed : Stmt := top 17
abbrev st_law : Stmt := top 18
structure Ad where
  f_is_number : Addr
  c_is_number : Addr
  d_is_number : FuncData
  f_is_scheme : Addr
  c_is_scheme : Addr
  d_is_scheme : FuncData
  p_is_scheme : Addr
  f_is_bar_number : Addr
  c_is_bar_number : Addr
  d_is_bar_number : FuncData
  p_is_bar_number : Addr
  f_is_right : Addr
  c_is_right : Addr
  d_is_right : FuncData
  p_is_right : Addr
  f_shows_wrong : Addr
  c_shows_wrong : Addr
  d_shows_wrong : FuncData
  p_shows_wrong : Addr
  f_rests_of : Addr
  c_rests_of : Addr
  d_rests_of : FuncData
  f_shows_exchange : Addr
  c_shows_exchange : Addr
  d_shows_exchange : FuncData
  f_mark_for : Addr
  c_mark_for : Addr
  d_mark_for : FuncData
  f__law_draws : Addr
  c__law_draws : Addr
  d__law_draws : FuncData
  f__law_take : Addr
  c__law_take : Addr
  d__law_take : FuncData
  f__law_same : Addr
  c__law_same : Addr
  d__law_same : FuncData
  f__law_right : Addr
  c__law_right : Addr
  d__law_right : FuncData
  f__law_numbers : Addr
  c__law_numbers : Addr
  d__law_numbers : FuncData
  f__law_changed : Addr
  c__law_changed : Addr
  d__law_changed : FuncData
  f_law : Addr
  c_law : Addr
  d_law : FuncData
structure Txt (K : PySem.W.Frag) (mg : Str → Option Value) (base : Heap) (a : Ad) : Prop where
  F_is_number : FunG K "is_number" "is_number" st_is_number a.f_is_number a.d_is_number a.c_is_number
  m_is_number : mg "is_number" = some (.ref a.f_is_number)
  b_is_number : Binds K a.d_is_number ["value", "least", "most"] []
  F_is_scheme : FunG K "is_scheme" "is_scheme" st_is_scheme a.f_is_scheme a.d_is_scheme a.c_is_scheme
  m_is_scheme : mg "is_scheme" = some (.ref a.f_is_scheme)
  b_is_scheme : Binds K a.d_is_scheme ["value"] []
  t_is_scheme : TabB base mg a.c_is_scheme a.p_is_scheme
  F_is_bar_number : FunG K "is_bar_number" "is_bar_number" st_is_bar_number a.f_is_bar_number a.d_is_bar_number a.c_is_bar_number
  m_is_bar_number : mg "is_bar_number" = some (.ref a.f_is_bar_number)
  b_is_bar_number : Binds K a.d_is_bar_number ["scheme", "value"] []
  t_is_bar_number : TabB base mg a.c_is_bar_number a.p_is_bar_number
  F_is_right : FunG K "is_right" "is_right" st_is_right a.f_is_right a.d_is_right a.c_is_right
  m_is_right : mg "is_right" = some (.ref a.f_is_right)
  b_is_right : Binds K a.d_is_right ["scheme", "number"] []
  t_is_right : TabB base mg a.c_is_right a.p_is_right
  F_shows_wrong : FunG K "shows_wrong" "shows_wrong" st_shows_wrong a.f_shows_wrong a.d_shows_wrong a.c_shows_wrong
  m_shows_wrong : mg "shows_wrong" = some (.ref a.f_shows_wrong)
  b_shows_wrong : Binds K a.d_shows_wrong ["scheme", "place"] []
  t_shows_wrong : TabB base mg a.c_shows_wrong a.p_shows_wrong
  F_rests_of : FunG K "rests_of" "rests_of" st_rests_of a.f_rests_of a.d_rests_of a.c_rests_of
  m_rests_of : mg "rests_of" = some (.ref a.f_rests_of)
  b_rests_of : Binds K a.d_rests_of ["scheme", "weights"] []
  F_shows_exchange : FunG K "shows_exchange" "shows_exchange" st_shows_exchange a.f_shows_exchange a.d_shows_exchange a.c_shows_exchange
  m_shows_exchange : mg "shows_exchange" = some (.ref a.f_shows_exchange)
  b_shows_exchange : Binds K a.d_shows_exchange ["scheme", "place"] []
  F_mark_for : FunG K "mark_for" "mark_for" st_mark_for a.f_mark_for a.d_mark_for a.c_mark_for
  m_mark_for : mg "mark_for" = some (.ref a.f_mark_for)
  b_mark_for : Binds K a.d_mark_for ["scheme", "items"] []
  F__law_draws : FunG K "_law_draws" "_law_draws" st__law_draws a.f__law_draws a.d__law_draws a.c__law_draws
  m__law_draws : mg "_law_draws" = some (.ref a.f__law_draws)
  b__law_draws : Binds K a.d__law_draws ["script"] []
  F__law_take : FunG K "_law_take" "_law_take" st__law_take a.f__law_take a.d__law_take a.c__law_take
  m__law_take : mg "_law_take" = some (.ref a.f__law_take)
  b__law_take : Binds K a.d__law_take ["draws", "bound"] []
  F__law_same : FunG K "_law_same" "_law_same" st__law_same a.f__law_same a.d__law_same a.c__law_same
  m__law_same : mg "_law_same" = some (.ref a.f__law_same)
  b__law_same : Binds K a.d__law_same ["actual", "due"] []
  F__law_right : FunG K "_law_right" "_law_right" st__law_right a.f__law_right a.d__law_right a.c__law_right
  m__law_right : mg "_law_right" = some (.ref a.f__law_right)
  b__law_right : Binds K a.d__law_right ["scheme", "number"] []
  F__law_numbers : FunG K "_law_numbers" "_law_numbers" st__law_numbers a.f__law_numbers a.d__law_numbers a.c__law_numbers
  m__law_numbers : mg "_law_numbers" = some (.ref a.f__law_numbers)
  b__law_numbers : Binds K a.d__law_numbers ["scheme"] []
  F__law_changed : FunG K "_law_changed" "_law_changed" st__law_changed a.f__law_changed a.d__law_changed a.c__law_changed
  m__law_changed : mg "_law_changed" = some (.ref a.f__law_changed)
  b__law_changed : Binds K a.d__law_changed ["number", "place", "item"] []
  F_law : FunG K "law" "law" st_law a.f_law a.d_law a.c_law
  m_law : mg "law" = some (.ref a.f_law)
  b_law : Binds K a.d_law ["script"] []
  z_abs : mg "abs" = none
  z_all : mg "all" = none
  z_bool : mg "bool" = none
  z_int : mg "int" = none
  z_isinstance : mg "isinstance" = none
  z_len : mg "len" = none
  z_list : mg "list" = none
  z_range : mg "range" = none
  z_reversed : mg "reversed" = none
  z_sorted : mg "sorted" = none
  z_str : mg "str" = none
  z_sum : mg "sum" = none
  z_tuple : mg "tuple" = none
  z_zip : mg "zip" = none
  g_MOST_BASE : ∃ t, mg "MOST_BASE" = some (.int 97 t)
abbrev Tb (a : Ad) : List Addr := [a.p_is_scheme, a.p_is_bar_number, a.p_is_right, a.p_shows_wrong]
theorem memT_is_scheme (a : Ad) : a.p_is_scheme ∈ Tb a := by unfold Tb; simp
theorem memT_is_bar_number (a : Ad) : a.p_is_bar_number ∈ Tb a := by unfold Tb; simp
theorem memT_is_right (a : Ad) : a.p_is_right ∈ Tb a := by unfold Tb; simp
theorem memT_shows_wrong (a : Ad) : a.p_shows_wrong ∈ Tb a := by unfold Tb; simp
abbrev cv_MOST_BASE : D := (.int 97)
abbrev N_is_number : List Str := ["value", "least", "most"]
theorem sc_is_number : FnScope N_is_number ["value", "least", "most"] (defScope st_is_number) := ⟨rfl, rfl, rfl, by decide +kernel, rfl, by decide +kernel, by decide +kernel⟩
def sm_is_number : SM :=
    (sRet (eAnd (eU (dIsT "int") (eV 0)) (eAnd (eU dNot (eU (dIsT "bool") (eV 0))) (eCh dLe dLe (eV 1) (eV 0) (eV 2)))))
theorem dr_is_number {P : Program} {w : World} {K : PySem.W.Frag} {mg : Str → Option Value} {base : Heap} {a : Ad} (T : Txt K mg base a) (A : Around) (outer : List Env) (s : Shared) (H : Hp) (E : XK) (hr : Room 0 (A.deeper (envOfC "is_number" (defScope st_is_number) s.heap.objs.size a.f_is_number (.ref a.c_is_number)))) :
    PSs (bcx P w K mg base N_is_number "is_number" (defScope st_is_number) a.f_is_number a.c_is_number A outer s H E) (defBody st_is_number) (tDS K (Tb a) (sm_is_number)) := by
  unfold sm_is_number
  exact (d_sone (d_sret (d_and (d_isi ty_int rfl T.z_isinstance rfl T.z_int (by decide +kernel) (d_var (pv 0))) (d_and (d_not (d_isi ty_bool rfl T.z_isinstance rfl T.z_bool (by decide +kernel) (d_var (pv 0)))) (d_one (d_chain o_leI o_leI (d_var (pv 1)) (d_var (pv 0)) (d_var (pv 2))))))))
abbrev N_is_scheme : List Str := ["value", "one"]
theorem sc_is_scheme : FnScope N_is_scheme ["value"] (defScope st_is_scheme) := ⟨rfl, rfl, rfl, by decide +kernel, rfl, by decide +kernel, by decide +kernel⟩
def sm_is_scheme : SM :=
    (sSeq (sIf (tOr (tNot (tE (eU (dIsT "tuple") (eV 0)))) (tOr (tE (eB dNe (eCall dLen (eAc (eV 0) eA0)) (eC (.int 2)))) (tNot (tE (eU (dIsT "tuple") (eB dIx (eV 0) (eC (.int 0)))))))) (sRet (eC (.bool false))) sNil)
    (sSeq (sIf (tOr (tNot (tE (eCh dLe dLe (eC (.int 2)) (eCall dLen (eAc (eB dIx (eV 0) (eC (.int 0))) eA0)) (eC (.int 10))))) (tNot (tE (cA false [1] (iW (eB dIx (eV 0) (eC (.int 0)))) (gN 1) cYes (eCall mf_is_number (eAc (eV 1) (eAc (eC (.int 1)) (eAc (eB dSub (eC cv_MOST_BASE) (eC (.int 1))) eA0)))))))) (sRet (eC (.bool false))) sNil)
    (sRet (eCall mf_is_number (eAc (eB dIx (eV 0) (eC (.int 1))) (eAc (eC (.int 2)) (eAc (eC cv_MOST_BASE) eA0)))))))
theorem dr_is_scheme {P : Program} {w : World} {K : PySem.W.Frag} {mg : Str → Option Value} {base : Heap} {a : Ad} (T : Txt K mg base a) (G_is_number : FnOk P w K mg base CX0 1 a.f_is_number a.d_is_number ["value", "least", "most"] (spD K (Tb a) 3 mf_is_number)) (A : Around) (outer : List Env) (s : Shared) (H : Hp) (E : XK) (hr : Room 2 (A.deeper (envOfC "is_scheme" (defScope st_is_scheme) s.heap.objs.size a.f_is_scheme (.ref a.c_is_scheme)))) :
    PSs (bcx P w K mg base N_is_scheme "is_scheme" (defScope st_is_scheme) a.f_is_scheme a.c_is_scheme A outer s H E) (defBody st_is_scheme) (tDS K (Tb a) (sm_is_scheme)) := by
  unfold sm_is_scheme
  exact (d_scons (d_sif (PW.pt (d_wor (d_tnot (d_tval (d_isi ty_tuple rfl T.z_isinstance rfl T.z_tuple (by decide +kernel) (d_var (pv 0))))) (d_wor (d_tcmp (o_ne hr.u64) (d_blt c_len rfl T.z_len (by decide +kernel) (d_cons (d_var (pv 0)) d_nil)) d_int (by first | exact nobehind _ (by decide) (by decide) | rfl)) (d_wor1 (d_tnot (d_tval (d_isi ty_tuple rfl T.z_isinstance rfl T.z_tuple (by decide +kernel) (d_ix (d_var (pv 0)) d_int)))))))) (d_sone (d_sret d_bl)) d_snil)
    (d_scons (d_sif (PW.pt (d_wor (d_tnot (d_tchain o_leI o_leI d_int (d_blt c_len rfl T.z_len (by decide +kernel) (d_cons (d_ix (d_var (pv 0)) d_int) d_nil)) d_int)) (d_wor1 (d_tnot (d_tval (d_all (own := [("one", 1)]) (hr.mono (k := _) (j := 1) (by decide)) rfl sc_is_scheme.nd rfl T.z_all T.t_is_scheme (memT_is_scheme a) rfl (blkOk_by (by kernel_rfl)) (by refine ⟨rfl, by decide +kernel, rfl⟩) (d_iter (d_ix (d_var (pv 0)) d_int)) (fun _ _ _ _ _ _ _ => (d_gname (i := 1) sc_is_scheme.nd rfl (by first | exact .inl rfl | exact .inr rfl) (by decide))) (fun _ _ _ _ _ _ _ => d_pts0) (fun _ _ _ _ _ _ _ => (d_call G_is_number (Room.gen (hr.mono (k := _) (j := 2) (by decide))) rfl T.m_is_number T.F_is_number.kp T.b_is_number rfl (d_cons (d_var (pv 1)) (d_cons d_int (d_cons (d_bin o_sub (d_globI rfl T.g_MOST_BASE) d_int) d_nil))) (eAc_len (eAc_len (eAc_len (fun _ _ _ => eA0_len)))))))))))) (d_sone (d_sret d_bl)) d_snil)
    (d_sone (d_sret (d_call G_is_number (hr.mono (by decide)) rfl T.m_is_number T.F_is_number.kp T.b_is_number rfl (d_cons (d_ix (d_var (pv 0)) d_int) (d_cons d_int (d_cons (d_globI rfl T.g_MOST_BASE) d_nil))) (eAc_len (eAc_len (eAc_len (fun _ _ _ => eA0_len)))))))))
abbrev N_is_bar_number : List Str := ["scheme", "value", "one"]
theorem sc_is_bar_number : FnScope N_is_bar_number ["scheme", "value"] (defScope st_is_bar_number) := ⟨rfl, rfl, rfl, by decide +kernel, rfl, by decide +kernel, by decide +kernel⟩
def sm_is_bar_number : SM :=
    (sSeq (sIf (tOr (tNot (tE (eU (dIsT "tuple") (eV 1)))) (tE (eB dNe (eCall dLen (eAc (eV 1) eA0)) (eCall dLen (eAc (eB dIx (eV 0) (eC (.int 0))) eA0))))) (sRet (eC (.bool false))) sNil)
    (sRet (cA false [2] (iW (eV 1)) (gN 2) cYes (eCall mf_is_number (eAc (eV 2) (eAc (eC (.int 0)) (eAc (eC (.int 9)) eA0)))))))
theorem dr_is_bar_number {P : Program} {w : World} {K : PySem.W.Frag} {mg : Str → Option Value} {base : Heap} {a : Ad} (T : Txt K mg base a) (G_is_number : FnOk P w K mg base CX0 1 a.f_is_number a.d_is_number ["value", "least", "most"] (spD K (Tb a) 3 mf_is_number)) (A : Around) (outer : List Env) (s : Shared) (H : Hp) (E : XK) (hr : Room 2 (A.deeper (envOfC "is_bar_number" (defScope st_is_bar_number) s.heap.objs.size a.f_is_bar_number (.ref a.c_is_bar_number)))) :
    PSs (bcx P w K mg base N_is_bar_number "is_bar_number" (defScope st_is_bar_number) a.f_is_bar_number a.c_is_bar_number A outer s H E) (defBody st_is_bar_number) (tDS K (Tb a) (sm_is_bar_number)) := by
  unfold sm_is_bar_number
  exact (d_scons (d_sif (PW.pt (d_wor (d_tnot (d_tval (d_isi ty_tuple rfl T.z_isinstance rfl T.z_tuple (by decide +kernel) (d_var (pv 1))))) (d_wor1 (d_tcmp (o_ne hr.u64) (d_blt c_len rfl T.z_len (by decide +kernel) (d_cons (d_var (pv 1)) d_nil)) (d_blt c_len rfl T.z_len (by decide +kernel) (d_cons (d_ix (d_var (pv 0)) d_int) d_nil)) (by first | exact nobehind _ (by decide) (by decide) | rfl))))) (d_sone (d_sret d_bl)) d_snil)
    (d_sone (d_sret (d_all (own := [("one", 2)]) (hr.mono (k := _) (j := 1) (by decide)) rfl sc_is_bar_number.nd rfl T.z_all T.t_is_bar_number (memT_is_bar_number a) rfl (blkOk_by (by kernel_rfl)) (by refine ⟨rfl, by decide +kernel, rfl⟩) (d_iter (d_var (pv 1))) (fun _ _ _ _ _ _ _ => (d_gname (i := 2) sc_is_bar_number.nd rfl (by first | exact .inl rfl | exact .inr rfl) (by decide))) (fun _ _ _ _ _ _ _ => d_pts0) (fun _ _ _ _ _ _ _ => (d_call G_is_number (Room.gen (hr.mono (k := _) (j := 2) (by decide))) rfl T.m_is_number T.F_is_number.kp T.b_is_number rfl (d_cons (d_var (pv 2)) (d_cons d_int (d_cons d_int d_nil))) (eAc_len (eAc_len (eAc_len (fun _ _ _ => eA0_len))))))))))
abbrev N_is_right : List Str := ["scheme", "number", "item", "weight"]
theorem sc_is_right : FnScope N_is_right ["scheme", "number"] (defScope st_is_right) := ⟨rfl, rfl, rfl, by decide +kernel, rfl, by decide +kernel, by decide +kernel⟩
def sm_is_right : SM :=
    (sRet (eB dEq (eB dModI (eSumG [2, 3] (iZp (eAc (eV 1) (eAc (eB dIx (eV 0) (eC (.int 0))) eA0))) (gTupD 2 (gConsD (gN 2) (gConsD (gN 3) gNilD))) cYes (eB dMul (eV 2) (eV 3))) (eB dIx (eV 0) (eC (.int 1)))) (eC (.int 0))))
theorem dr_is_right {P : Program} {w : World} {K : PySem.W.Frag} {mg : Str → Option Value} {base : Heap} {a : Ad} (T : Txt K mg base a) (A : Around) (outer : List Env) (s : Shared) (H : Hp) (E : XK) (hr : Room 1 (A.deeper (envOfC "is_right" (defScope st_is_right) s.heap.objs.size a.f_is_right (.ref a.c_is_right)))) :
    PSs (bcx P w K mg base N_is_right "is_right" (defScope st_is_right) a.f_is_right a.c_is_right A outer s H E) (defBody st_is_right) (tDS K (Tb a) (sm_is_right)) := by
  unfold sm_is_right
  exact (d_sone (d_sret (d_cmp (o_eq hr.u64) (d_bin o_modI (d_sum (own := [("item", 2), ("weight", 3)]) (hr.mono (k := _) (j := 1) (by decide)) rfl sc_is_right.nd rfl T.z_sum T.t_is_right (memT_is_right a) rfl (blkOk_by (by kernel_rfl)) (by refine ⟨rfl, by decide +kernel, rfl⟩) (d_zip rfl T.z_zip (d_cons (d_var (pv 1)) (d_cons (d_ix (d_var (pv 0)) d_int) d_nil))) (fun _ _ _ _ _ _ _ => (d_gtup (n := 2) rfl (d_gcons (d_gname (i := 2) sc_is_right.nd rfl (by first | exact .inl rfl | exact .inr rfl) (by decide)) (d_gcons (d_gname (i := 3) sc_is_right.nd rfl (by first | exact .inl rfl | exact .inr rfl) (by decide)) d_gnil)))) (fun _ _ _ _ _ _ _ => d_pts0) (fun _ _ _ _ _ _ _ => (d_bin o_mul (d_var (pv 2)) (d_var (pv 3))))) (d_ix (d_var (pv 0)) d_int)) d_int (by first | exact nobehind _ (by decide) (by decide) | rfl))))
abbrev N_shows_wrong : List Str := ["scheme", "place", "step"]
theorem sc_shows_wrong : FnScope N_shows_wrong ["scheme", "place"] (defScope st_shows_wrong) := ⟨rfl, rfl, rfl, by decide +kernel, rfl, by decide +kernel, by decide +kernel⟩
def sm_shows_wrong : SM :=
    (sRet (cA false [2] (iR2 (eAc (eC (.int 1)) (eAc (eC (.int 10)) eA0))) (gN 2) cYes (eB dNe (eB dModI (eB dMul (eB dIx (eB dIx (eV 0) (eC (.int 0))) (eV 1)) (eV 2)) (eB dIx (eV 0) (eC (.int 1)))) (eC (.int 0)))))
theorem dr_shows_wrong {P : Program} {w : World} {K : PySem.W.Frag} {mg : Str → Option Value} {base : Heap} {a : Ad} (T : Txt K mg base a) (A : Around) (outer : List Env) (s : Shared) (H : Hp) (E : XK) (hr : Room 1 (A.deeper (envOfC "shows_wrong" (defScope st_shows_wrong) s.heap.objs.size a.f_shows_wrong (.ref a.c_shows_wrong)))) :
    PSs (bcx P w K mg base N_shows_wrong "shows_wrong" (defScope st_shows_wrong) a.f_shows_wrong a.c_shows_wrong A outer s H E) (defBody st_shows_wrong) (tDS K (Tb a) (sm_shows_wrong)) := by
  unfold sm_shows_wrong
  exact (d_sone (d_sret (d_all (own := [("step", 2)]) (hr.mono (k := _) (j := 1) (by decide)) rfl sc_shows_wrong.nd rfl T.z_all T.t_shows_wrong (memT_shows_wrong a) rfl (blkOk_by (by kernel_rfl)) (by refine ⟨rfl, by decide +kernel, rfl⟩) (d_range2 rfl T.z_range (d_cons d_int (d_cons d_int d_nil))) (fun _ _ _ _ _ _ _ => (d_gname (i := 2) sc_shows_wrong.nd rfl (by first | exact .inl rfl | exact .inr rfl) (by decide))) (fun _ _ _ _ _ _ _ => d_pts0) (fun _ _ _ _ _ _ _ => (d_cmp (o_ne (Room.gen (hr.mono (k := _) (j := 1) (by decide))).u64) (d_bin o_modI (d_bin o_mul (d_ix (d_ix (d_var (pv 0)) d_int) (d_var (pv 1))) (d_var (pv 2))) (d_ix (d_var (pv 0)) d_int)) d_int (by first | exact nobehind _ (by decide) (by decide) | rfl))))))
abbrev N_rests_of : List Str := ["scheme", "weights", "found", "weight", "later", "rest", "item"]
theorem sc_rests_of : FnScope N_rests_of ["scheme", "weights"] (defScope st_rests_of) := ⟨rfl, rfl, rfl, by decide +kernel, rfl, by decide +kernel, by decide +kernel⟩
def sm_rests_of : SM :=
    (sSeq (sSet (gN 2) (eOfL (eLs (eAc (eC (.int 0)) eA0))))
    (sSeq (sFor (iW (eV 1)) (gN 3) (sSeq (sDk0 4)
    (sSeq (sFor (iW (eV 2)) (gN 5) (sFor (iR1 (eAc (eC (.int 10)) eA0)) (gN 6) (sDput 4 (eB dModI (eB dAdd (eV 5) (eB dMul (eV 6) (eV 3))) (eB dIx (eV 0) (eC (.int 1)))) (eC (.bool true)))))
    (sSet (gN 2) (eSrtDk 4)))))
    (sRet (eV 2))))
theorem dr_rests_of {P : Program} {w : World} {K : PySem.W.Frag} {mg : Str → Option Value} {base : Heap} {a : Ad} (T : Txt K mg base a) (A : Around) (outer : List Env) (s : Shared) (H : Hp) (E : XK) (hr : Room 0 (A.deeper (envOfC "rests_of" (defScope st_rests_of) s.heap.objs.size a.f_rests_of (.ref a.c_rests_of)))) :
    PSs (bcx P w K mg base N_rests_of "rests_of" (defScope st_rests_of) a.f_rests_of a.c_rests_of A outer s H E) (defBody st_rests_of) (tDS K (Tb a) (sm_rests_of)) := by
  unfold sm_rests_of
  exact (d_scons (d_sset (i := 2) sc_rests_of.nd rfl (.inl rfl) (d_ofNew (d_list (d_cons d_int d_nil))))
    (d_scons (d_sfor (vs := [3]) PassesOwn.never rfl (d_iter (d_var (pv 1))) (d_gname (i := 3) sc_rests_of.nd rfl (.inl rfl) (by decide)) (d_scons (d_sdk0 (i := 4) sc_rests_of.nd rfl (.inl rfl))
    (d_scons (d_sfor (vs := [5]) PassesOwn.never rfl (d_iter (d_var (pv 2))) (d_gname (i := 5) sc_rests_of.nd rfl (.inl rfl) (by decide)) (d_sone (d_sfor (vs := [6]) PassesOwn.never rfl (d_range1 rfl T.z_range (d_cons d_int d_nil)) (d_gname (i := 6) sc_rests_of.nd rfl (.inl rfl) (by decide)) (d_sone (d_sdput (i := 4) hr.u1 (pv 4) (d_bin o_modI (d_bin o_add (d_var (pv 5)) (d_bin o_mul (d_var (pv 6)) (d_var (pv 3)))) (d_ix (d_var (pv 0)) d_int)) d_bl)))))
    (d_sone (d_sset (i := 2) sc_rests_of.nd rfl (.inl rfl) (d_srtDk (i := 4) rfl (pv 4) rfl T.z_sorted))))))
    (d_sone (d_sret (d_var (pv 2))))))
abbrev N_shows_exchange : List Str := ["scheme", "place", "weights", "base", "rests", "one", "other", "here", "there"]
theorem sc_shows_exchange : FnScope N_shows_exchange ["scheme", "place"] (defScope st_shows_exchange) := ⟨rfl, rfl, rfl, by decide +kernel, rfl, by decide +kernel, by decide +kernel⟩
def sm_shows_exchange : SM :=
    (sSeq (sSet (gTupD 2 (gConsD (gN 2) (gConsD (gN 3) gNilD))) (eV 0))
    (sSeq (sSet (gN 4) (eCall mf_rests_of (eAc (eV 0) (eAc (eB dAdd (eSl (eV 2) eP0 (ePs (eV 1))) (eSl (eV 2) (ePs (eB dAdd (eV 1) (eC (.int 2)))) eP0)) eA0))))
    (sSeq (sFor (iR1 (eAc (eC (.int 10)) eA0)) (gN 5) (sFor (iR1 (eAc (eC (.int 10)) eA0)) (gN 6) (sSeq (sSet (gN 7) (eB dModI (eB dAdd (eB dMul (eV 5) (eB dIx (eV 2) (eV 1))) (eB dMul (eV 6) (eB dIx (eV 2) (eB dAdd (eV 1) (eC (.int 1)))))) (eV 3)))
    (sSeq (sSet (gN 8) (eB dModI (eB dAdd (eB dMul (eV 6) (eB dIx (eV 2) (eV 1))) (eB dMul (eV 5) (eB dIx (eV 2) (eB dAdd (eV 1) (eC (.int 1)))))) (eV 3)))
    (sIf (tAnd (tE (eB dNe (eV 5) (eV 6))) (tAnd (tE (eB dEq (eV 7) (eV 8))) (tE (eB dInA (eB dModI (eB dSub (eV 3) (eV 7)) (eV 3)) (eV 4))))) (sRet (eC (.bool false))) sNil)))))
    (sRet (eC (.bool true))))))
theorem dr_shows_exchange {P : Program} {w : World} {K : PySem.W.Frag} {mg : Str → Option Value} {base : Heap} {a : Ad} (T : Txt K mg base a) (G_rests_of : FnOk P w K mg base CX0 1 a.f_rests_of a.d_rests_of ["scheme", "weights"] (spD K (Tb a) 2 mf_rests_of)) (A : Around) (outer : List Env) (s : Shared) (H : Hp) (E : XK) (hr : Room 1 (A.deeper (envOfC "shows_exchange" (defScope st_shows_exchange) s.heap.objs.size a.f_shows_exchange (.ref a.c_shows_exchange)))) :
    PSs (bcx P w K mg base N_shows_exchange "shows_exchange" (defScope st_shows_exchange) a.f_shows_exchange a.c_shows_exchange A outer s H E) (defBody st_shows_exchange) (tDS K (Tb a) (sm_shows_exchange)) := by
  unfold sm_shows_exchange
  exact (d_scons (d_sasg (vs := [2, 3]) (d_var (pv 0)) (d_gtup (n := 2) rfl (d_gcons (d_gname (i := 2) sc_shows_exchange.nd rfl (.inl rfl) (by decide)) (d_gcons (d_gname (i := 3) sc_shows_exchange.nd rfl (.inl rfl) (by decide)) d_gnil))))
    (d_scons (d_sset (i := 4) sc_shows_exchange.nd rfl (.inl rfl) (d_call G_rests_of (hr.mono (by decide)) rfl T.m_rests_of T.F_rests_of.kp T.b_rests_of rfl (d_cons (d_var (pv 0)) (d_cons (d_bin o_add (d_sl (d_var (pv 2)) d_p0 (d_ps (d_var (pv 1)))) (d_sl (d_var (pv 2)) (d_ps (d_bin o_add (d_var (pv 1)) d_int)) d_p0)) d_nil)) (eAc_len (eAc_len (fun _ _ _ => eA0_len)))))
    (d_scons (d_sfor (vs := [5]) PassesOwn.never rfl (d_range1 rfl T.z_range (d_cons d_int d_nil)) (d_gname (i := 5) sc_shows_exchange.nd rfl (.inl rfl) (by decide)) (d_sone (d_sfor (vs := [6]) PassesOwn.never rfl (d_range1 rfl T.z_range (d_cons d_int d_nil)) (d_gname (i := 6) sc_shows_exchange.nd rfl (.inl rfl) (by decide)) (d_scons (d_sset (i := 7) sc_shows_exchange.nd rfl (.inl rfl) (d_bin o_modI (d_bin o_add (d_bin o_mul (d_var (pv 5)) (d_ix (d_var (pv 2)) (d_var (pv 1)))) (d_bin o_mul (d_var (pv 6)) (d_ix (d_var (pv 2)) (d_bin o_add (d_var (pv 1)) d_int)))) (d_var (pv 3))))
    (d_scons (d_sset (i := 8) sc_shows_exchange.nd rfl (.inl rfl) (d_bin o_modI (d_bin o_add (d_bin o_mul (d_var (pv 6)) (d_ix (d_var (pv 2)) (d_var (pv 1)))) (d_bin o_mul (d_var (pv 5)) (d_ix (d_var (pv 2)) (d_bin o_add (d_var (pv 1)) d_int)))) (d_var (pv 3))))
    (d_sone (d_sif (PW.pt (d_wand (d_tcmp (o_ne hr.u64) (d_var (pv 5)) (d_var (pv 6)) (by first | exact nobehind _ (by decide) (by decide) | rfl)) (d_wand (d_tcmp (o_eq hr.u64) (d_var (pv 7)) (d_var (pv 8)) (by first | exact nobehind _ (by decide) (by decide) | rfl)) (d_wand1 (d_tcmp (o_inA hr.u65) (d_bin o_modI (d_bin o_sub (d_var (pv 3)) (d_var (pv 7))) (d_var (pv 3))) (d_var (pv 4)) (by first | exact nobehind _ (by decide) (by decide) | rfl)))))) (d_sone (d_sret d_bl)) d_snil)))))))
    (d_sone (d_sret d_bl)))))
abbrev N_mark_for : List Str := ["scheme", "items", "item"]
theorem sc_mark_for : FnScope N_mark_for ["scheme", "items"] (defScope st_mark_for) := ⟨rfl, rfl, rfl, by decide +kernel, rfl, by decide +kernel, by decide +kernel⟩
def sm_mark_for : SM :=
    (sSeq (sFor (iR1 (eAc (eC (.int 10)) eA0)) (gN 2) (sIf (tE (eCall mf_is_right (eAc (eV 0) (eAc (eTup (eAs (eV 1) (eAc (eV 2) eA0))) eA0)))) (sRet (eV 2)) sNil))
    (sRet (eC .none)))
theorem dr_mark_for {P : Program} {w : World} {K : PySem.W.Frag} {mg : Str → Option Value} {base : Heap} {a : Ad} (T : Txt K mg base a) (G_is_right : FnOk P w K mg base CX0 2 a.f_is_right a.d_is_right ["scheme", "number"] (spD K (Tb a) 2 mf_is_right)) (A : Around) (outer : List Env) (s : Shared) (H : Hp) (E : XK) (hr : Room 2 (A.deeper (envOfC "mark_for" (defScope st_mark_for) s.heap.objs.size a.f_mark_for (.ref a.c_mark_for)))) :
    PSs (bcx P w K mg base N_mark_for "mark_for" (defScope st_mark_for) a.f_mark_for a.c_mark_for A outer s H E) (defBody st_mark_for) (tDS K (Tb a) (sm_mark_for)) := by
  unfold sm_mark_for
  exact (d_scons (d_sfor (vs := [2]) PassesOwn.never rfl (d_range1 rfl T.z_range (d_cons d_int d_nil)) (d_gname (i := 2) sc_mark_for.nd rfl (.inl rfl) (by decide)) (d_sone (d_sif (d_tval (d_call G_is_right (hr.mono (by decide)) rfl T.m_is_right T.F_is_right.kp T.b_is_right rfl (d_cons (d_var (pv 0)) (d_cons (d_tup (d_star (d_var (pv 1)) (d_cons (d_var (pv 2)) d_nil))) d_nil)) (eAc_len (eAc_len (fun _ _ _ => eA0_len))))) (d_sone (d_sret (d_var (pv 2)))) d_snil)))
    (d_sone (d_sret d_non)))
abbrev N__law_draws : List Str := ["script", "draws", "cell", "number", "first", "k", "seed"]
theorem sc__law_draws : FnScope N__law_draws ["script"] (defScope st__law_draws) := ⟨rfl, rfl, rfl, by decide +kernel, rfl, by decide +kernel, by decide +kernel⟩
def sm__law_draws : SN :=
    (nSeq (sSetO 1 (eLs eA0))
    (nSeq (sFor (iSq 0) (gN 2) (sSeq (sSet (gN 3) (eCall dAbs (eAc (eV 2) eA0)))
    (sSeq (sIf (tE (eB dLt (eV 3) (eB dPow (eC (.int 10)) (eC (.int 18))))) (sSeq (sSet (gN 4) (eB dModI (eCall dInt (eAc (eB dAdd (eB dMul (eV 3) (eC (.int 48271))) (eC (.int 11))) eA0)) (eC (.int 2147483647))))
    (sSeq (sApp 1 (eB dModI (eCall dInt (eAc (eB dAdd (eB dMul (eV 4) (eC (.int 69621))) (eV 3)) eA0)) (eC (.int 2147483629))))
    (sSeq (sApp 1 (eB dModI (eCall dInt (eAc (eB dAdd (eV 4) (eB dDiv (eV 3) (eC (.int 7)))) eA0)) (eC (.int 1000003))))
    (sSet (gN 3) (eC (.int 0)))))) sNil)
    (sFor (iR1 (eAc (eC (.int 60)) eA0)) (gN 5) (sIf (tE (eB dGt (eV 3) (eC (.int 0)))) (sSeq (sApp 1 (eB dModI (eCall dInt (eAc (eV 3) eA0)) (eC (.int 997))))
    (sSet (gN 3) (eB dDiv (eV 3) (eC (.int 997))))) sNil)))))
    (nSeq (sSet (gN 6) (eC (.int 1)))
    (nSeq (sIf (tE (eB dGt (eLenS 0) (eC (.int 0)))) (sSet (gN 6) (eB dAdd (eC (.int 1)) (eCall dAbs (eAc (eIxS 0 (eC (.int 0))) eA0)))) sNil)
    (nSeq (sFor (iR1 (eAc (eC (.int 900)) eA0)) (gN 5) (sSeq (sSet (gN 6) (eB dModI (eCall dInt (eAc (eB dAdd (eB dMul (eV 6) (eC (.int 48271))) (eC (.int 69621))) eA0)) (eC (.int 2147483647))))
    (sApp 1 (eB dDiv (eV 6) (eC (.int 5))))))
    (nRet (eRevO 1)))))))
theorem dr__law_draws {P : Program} {w : World} {K : PySem.W.Frag} {mg : Str → Option Value} {base : Heap} {a : Ad} (T : Txt K mg base a) (A : Around) (outer : List Env) (s : Shared) (H : Hp) (E : XK) (hr : Room 0 (A.deeper (envOfC "_law_draws" (defScope st__law_draws) s.heap.objs.size a.f__law_draws (.ref a.c__law_draws)))) :
    PSs (bcx P w K mg base N__law_draws "_law_draws" (defScope st__law_draws) a.f__law_draws a.c__law_draws A outer s H E) (defBody st__law_draws) (tDSN K (Tb a) (sm__law_draws)) := by
  unfold sm__law_draws
  exact (d_ncons (d_ssetO (i := 1) sc__law_draws.nd rfl (.inl rfl) (d_list d_nil))
    (d_ncons (d_sfor (vs := [2]) PassesOwn.never rfl (d_iterS (i := 0) (pv 0)) (d_gname (i := 2) sc__law_draws.nd rfl (.inl rfl) (by decide)) (d_scons (d_sset (i := 3) sc__law_draws.nd rfl (.inl rfl) (d_blt c_abs rfl T.z_abs (by decide +kernel) (d_cons (d_var (pv 2)) d_nil)))
    (d_scons (d_sif (d_tcmp o_ltI (d_var (pv 3)) (d_bin o_pow d_int d_int) (by first | exact nobehind _ (by decide) (by decide) | rfl)) (d_scons (d_sset (i := 4) sc__law_draws.nd rfl (.inl rfl) (d_bin o_modI (d_bty c_int rfl T.z_int (by decide +kernel) (d_cons (d_bin o_add (d_bin o_mul (d_var (pv 3)) d_int) d_int) d_nil)) d_int))
    (d_scons (d_app (i := 1) (pv 1) (d_bin o_modI (d_bty c_int rfl T.z_int (by decide +kernel) (d_cons (d_bin o_add (d_bin o_mul (d_var (pv 4)) d_int) (d_var (pv 3))) d_nil)) d_int) (pe_bm PySem.F.plainAttrs_list PySem.F.slot_list_append PySem.F.type_list_append mt_append (pv 1) (pa_cons (d_bin o_modI (d_bty c_int rfl T.z_int (by decide +kernel) (d_cons (d_bin o_add (d_bin o_mul (d_var (pv 4)) d_int) (d_var (pv 3))) d_nil)) d_int) pa_nil)))
    (d_scons (d_app (i := 1) (pv 1) (d_bin o_modI (d_bty c_int rfl T.z_int (by decide +kernel) (d_cons (d_bin o_add (d_var (pv 4)) (d_bin o_div (d_var (pv 3)) d_int)) d_nil)) d_int) (pe_bm PySem.F.plainAttrs_list PySem.F.slot_list_append PySem.F.type_list_append mt_append (pv 1) (pa_cons (d_bin o_modI (d_bty c_int rfl T.z_int (by decide +kernel) (d_cons (d_bin o_add (d_var (pv 4)) (d_bin o_div (d_var (pv 3)) d_int)) d_nil)) d_int) pa_nil)))
    (d_sone (d_sset (i := 3) sc__law_draws.nd rfl (.inl rfl) d_int))))) d_snil)
    (d_sone (d_sfor (vs := [5]) PassesOwn.never rfl (d_range1 rfl T.z_range (d_cons d_int d_nil)) (d_gname (i := 5) sc__law_draws.nd rfl (.inl rfl) (by decide)) (d_sone (d_sif (d_tcmp o_gtI (d_var (pv 3)) d_int (by first | exact nobehind _ (by decide) (by decide) | rfl)) (d_scons (d_app (i := 1) (pv 1) (d_bin o_modI (d_bty c_int rfl T.z_int (by decide +kernel) (d_cons (d_var (pv 3)) d_nil)) d_int) (pe_bm PySem.F.plainAttrs_list PySem.F.slot_list_append PySem.F.type_list_append mt_append (pv 1) (pa_cons (d_bin o_modI (d_bty c_int rfl T.z_int (by decide +kernel) (d_cons (d_var (pv 3)) d_nil)) d_int) pa_nil)))
    (d_sone (d_sset (i := 3) sc__law_draws.nd rfl (.inl rfl) (d_bin o_div (d_var (pv 3)) d_int)))) d_snil)))))))
    (d_ncons (d_sset (i := 6) sc__law_draws.nd rfl (.inl rfl) d_int)
    (d_ncons (d_sif (d_tcmp o_gtI (d_lenS (i := 0) (pv 0) rfl T.z_len) d_int (by first | exact nobehind _ (by decide) (by decide) | rfl)) (d_sone (d_sset (i := 6) sc__law_draws.nd rfl (.inl rfl) (d_bin o_add d_int (d_blt c_abs rfl T.z_abs (by decide +kernel) (d_cons (d_ixS (i := 0) (pv 0) d_int) d_nil))))) d_snil)
    (d_ncons (d_sfor (vs := [5]) PassesOwn.never rfl (d_range1 rfl T.z_range (d_cons d_int d_nil)) (d_gname (i := 5) sc__law_draws.nd rfl (.inl rfl) (by decide)) (d_scons (d_sset (i := 6) sc__law_draws.nd rfl (.inl rfl) (d_bin o_modI (d_bty c_int rfl T.z_int (by decide +kernel) (d_cons (d_bin o_add (d_bin o_mul (d_var (pv 6)) d_int) d_int) d_nil)) d_int))
    (d_sone (d_app (i := 1) (pv 1) (d_bin o_div (d_var (pv 6)) d_int) (pe_bm PySem.F.plainAttrs_list PySem.F.slot_list_append PySem.F.type_list_append mt_append (pv 1) (pa_cons (d_bin o_div (d_var (pv 6)) d_int) pa_nil))))))
    (d_nret (d_revO (i := 1) rfl rfl T.z_list rfl T.z_reversed (pv 1))))))))
abbrev N__law_take : List Str := ["draws", "bound"]
theorem sc__law_take : FnScope N__law_take ["draws", "bound"] (defScope st__law_take) := ⟨rfl, rfl, rfl, by decide +kernel, rfl, by decide +kernel, by decide +kernel⟩
def sm__law_take : SM :=
    (sSeq (sIf (tE (eB dEq (eLenO 0) (eC (.int 0)))) (sRet (eC (.int 0))) sNil)
    (sRet (eB dModI (eCall dInt (eAc (ePop 0) eA0)) (eV 1))))
theorem dr__law_take {P : Program} {w : World} {K : PySem.W.Frag} {mg : Str → Option Value} {base : Heap} {a : Ad} (T : Txt K mg base a) (A : Around) (outer : List Env) (s : Shared) (H : Hp) (E : XK) (hr : Room 0 (A.deeper (envOfC "_law_take" (defScope st__law_take) s.heap.objs.size a.f__law_take (.ref a.c__law_take)))) :
    PSs (bcx P w K mg base N__law_take "_law_take" (defScope st__law_take) a.f__law_take a.c__law_take A outer s H E) (defBody st__law_take) (tDS K (Tb a) (sm__law_take)) := by
  unfold sm__law_take
  exact (d_scons (d_sif (d_tcmp (o_eq hr.u64) (d_lenO (i := 0) (pv 0) rfl T.z_len) d_int (by first | exact nobehind _ (by decide) (by decide) | rfl)) (d_sone (d_sret d_int)) d_snil)
    (d_sone (d_sret (d_bin o_modI (d_bty c_int rfl T.z_int (by decide +kernel) (d_cons (d_pop (i := 0) (pe_bm0 PySem.F.plainAttrs_list PySem.F.slot_list_pop PySem.F.type_list_pop mt_pop (pv 0))) d_nil)) (d_var (pv 1))))))
abbrev N__law_same : List Str := ["actual", "due", "k"]
theorem sc__law_same : FnScope N__law_same ["actual", "due"] (defScope st__law_same) := ⟨rfl, rfl, rfl, by decide +kernel, rfl, by decide +kernel, by decide +kernel⟩
def sm__law_same (mfr : List D → Option D) : SM :=
    (sSeq (sIf (tOr (tE (eB dIs (eV 1) (eC .none))) (tE (eB dIs (eV 0) (eC .none)))) (sRet (eAnd (eB dIs (eV 1) (eC .none)) (eB dIs (eV 0) (eC .none)))) sNil)
    (sSeq (sIf (tOr (tE (eU (dIsT "tuple") (eV 1))) (tE (eU (dIsT "list") (eV 1)))) (sSeq (sIf (tOr (tE (eB dNe (eU (dIsT "tuple") (eV 1)) (eU (dIsT "tuple") (eV 0)))) (tE (eB dNe (eU (dIsT "list") (eV 1)) (eU (dIsT "list") (eV 0))))) (sRet (eC (.bool false))) sNil)
    (sSeq (sIf (tE (eB dNe (eCall dLen (eAc (eV 0) eA0)) (eCall dLen (eAc (eV 1) eA0)))) (sRet (eC (.bool false))) sNil)
    (sSeq (sFor (iR1 (eAc (eCall dLen (eAc (eV 1) eA0)) eA0)) (gN 2) (sIf (tNot (tE (eCall mfr (eAc (eB dIx (eV 0) (eV 2)) (eAc (eB dIx (eV 1) (eV 2)) eA0))))) (sRet (eC (.bool false))) sNil))
    (sRet (eC (.bool true)))))) sNil)
    (sSeq (sIf (tE (eB dNe (eU (dIsT "bool") (eV 1)) (eU (dIsT "bool") (eV 0)))) (sRet (eC (.bool false))) sNil)
    (sSeq (sIf (tOr (tE (eB dNe (eU (dIsT "int") (eV 1)) (eU (dIsT "int") (eV 0)))) (tE (eB dNe (eU (dIsT "str") (eV 1)) (eU (dIsT "str") (eV 0))))) (sRet (eC (.bool false))) sNil)
    (sRet (eB dEq (eV 0) (eV 1)))))))
theorem dr__law_same {P : Program} {w : World} {K : PySem.W.Frag} {mg : Str → Option Value} {base : Heap} {a : Ad} (T : Txt K mg base a) {kr : Nat} {mfr : List D → Option D} (Gr : FnOk P w K mg base CX0 kr a.f__law_same a.d__law_same ["actual", "due"] (spD K (Tb a) 2 mfr)) (A : Around) (outer : List Env) (s : Shared) (H : Hp) (E : XK) (hr : Room kr (A.deeper (envOfC "_law_same" (defScope st__law_same) s.heap.objs.size a.f__law_same (.ref a.c__law_same)))) :
    PSs (bcx P w K mg base N__law_same "_law_same" (defScope st__law_same) a.f__law_same a.c__law_same A outer s H E) (defBody st__law_same) (tDS K (Tb a) (sm__law_same mfr)) := by
  unfold sm__law_same
  exact (d_scons (d_sif (PW.pt (d_wor (d_tcmp o_is (d_var (pv 1)) d_non (by first | exact nobehind _ (by decide) (by decide) | rfl)) (d_wor1 (d_tcmp o_is (d_var (pv 0)) d_non (by first | exact nobehind _ (by decide) (by decide) | rfl))))) (d_sone (d_sret (d_and (d_cmp o_is (d_var (pv 1)) d_non (by first | exact nobehind _ (by decide) (by decide) | rfl)) (d_one (d_cmp o_is (d_var (pv 0)) d_non (by first | exact nobehind _ (by decide) (by decide) | rfl)))))) d_snil)
    (d_scons (d_sif (PW.pt (d_wor (d_tval (d_isi ty_tuple rfl T.z_isinstance rfl T.z_tuple (by decide +kernel) (d_var (pv 1)))) (d_wor1 (d_tval (d_isi ty_list rfl T.z_isinstance rfl T.z_list (by decide +kernel) (d_var (pv 1))))))) (d_scons (d_sif (PW.pt (d_wor (d_tcmp (o_ne hr.u64) (d_isi ty_tuple rfl T.z_isinstance rfl T.z_tuple (by decide +kernel) (d_var (pv 1))) (d_isi ty_tuple rfl T.z_isinstance rfl T.z_tuple (by decide +kernel) (d_var (pv 0))) (by first | exact nobehind _ (by decide) (by decide) | rfl)) (d_wor1 (d_tcmp (o_ne hr.u64) (d_isi ty_list rfl T.z_isinstance rfl T.z_list (by decide +kernel) (d_var (pv 1))) (d_isi ty_list rfl T.z_isinstance rfl T.z_list (by decide +kernel) (d_var (pv 0))) (by first | exact nobehind _ (by decide) (by decide) | rfl))))) (d_sone (d_sret d_bl)) d_snil)
    (d_scons (d_sif (d_tcmp (o_ne hr.u64) (d_blt c_len rfl T.z_len (by decide +kernel) (d_cons (d_var (pv 0)) d_nil)) (d_blt c_len rfl T.z_len (by decide +kernel) (d_cons (d_var (pv 1)) d_nil)) (by first | exact nobehind _ (by decide) (by decide) | rfl)) (d_sone (d_sret d_bl)) d_snil)
    (d_scons (d_sfor (vs := [2]) PassesOwn.never rfl (d_range1 rfl T.z_range (d_cons (d_blt c_len rfl T.z_len (by decide +kernel) (d_cons (d_var (pv 1)) d_nil)) d_nil)) (d_gname (i := 2) sc__law_same.nd rfl (.inl rfl) (by decide)) (d_sone (d_sif (d_tnot (d_tval (d_call Gr hr rfl T.m__law_same T.F__law_same.kp T.b__law_same rfl (d_cons (d_ix (d_var (pv 0)) (d_var (pv 2))) (d_cons (d_ix (d_var (pv 1)) (d_var (pv 2))) d_nil)) (eAc_len (eAc_len (fun _ _ _ => eA0_len)))))) (d_sone (d_sret d_bl)) d_snil)))
    (d_sone (d_sret d_bl))))) d_snil)
    (d_scons (d_sif (d_tcmp (o_ne hr.u64) (d_isi ty_bool rfl T.z_isinstance rfl T.z_bool (by decide +kernel) (d_var (pv 1))) (d_isi ty_bool rfl T.z_isinstance rfl T.z_bool (by decide +kernel) (d_var (pv 0))) (by first | exact nobehind _ (by decide) (by decide) | rfl)) (d_sone (d_sret d_bl)) d_snil)
    (d_scons (d_sif (PW.pt (d_wor (d_tcmp (o_ne hr.u64) (d_isi ty_int rfl T.z_isinstance rfl T.z_int (by decide +kernel) (d_var (pv 1))) (d_isi ty_int rfl T.z_isinstance rfl T.z_int (by decide +kernel) (d_var (pv 0))) (by first | exact nobehind _ (by decide) (by decide) | rfl)) (d_wor1 (d_tcmp (o_ne hr.u64) (d_isi ty_str rfl T.z_isinstance rfl T.z_str (by decide +kernel) (d_var (pv 1))) (d_isi ty_str rfl T.z_isinstance rfl T.z_str (by decide +kernel) (d_var (pv 0))) (by first | exact nobehind _ (by decide) (by decide) | rfl))))) (d_sone (d_sret d_bl)) d_snil)
    (d_sone (d_sret (d_cmp (o_eq hr.u64) (d_var (pv 0)) (d_var (pv 1)) (by first | exact nobehind _ (by decide) (by decide) | rfl))))))))
abbrev N__law_right : List Str := ["scheme", "number", "total", "place"]
theorem sc__law_right : FnScope N__law_right ["scheme", "number"] (defScope st__law_right) := ⟨rfl, rfl, rfl, by decide +kernel, rfl, by decide +kernel, by decide +kernel⟩
def sm__law_right : SM :=
    (sSeq (sSet (gN 2) (eC (.int 0)))
    (sSeq (sFor (iR1 (eAc (eCall dLen (eAc (eV 1) eA0)) eA0)) (gN 3) (sSet (gN 2) (eB dAdd (eV 2) (eB dMul (eB dIx (eV 1) (eV 3)) (eB dIx (eB dIx (eV 0) (eC (.int 0))) (eV 3))))))
    (sRet (eB dEq (eB dModI (eCall dInt (eAc (eV 2) eA0)) (eB dIx (eV 0) (eC (.int 1)))) (eC (.int 0))))))
theorem dr__law_right {P : Program} {w : World} {K : PySem.W.Frag} {mg : Str → Option Value} {base : Heap} {a : Ad} (T : Txt K mg base a) (A : Around) (outer : List Env) (s : Shared) (H : Hp) (E : XK) (hr : Room 0 (A.deeper (envOfC "_law_right" (defScope st__law_right) s.heap.objs.size a.f__law_right (.ref a.c__law_right)))) :
    PSs (bcx P w K mg base N__law_right "_law_right" (defScope st__law_right) a.f__law_right a.c__law_right A outer s H E) (defBody st__law_right) (tDS K (Tb a) (sm__law_right)) := by
  unfold sm__law_right
  exact (d_scons (d_sset (i := 2) sc__law_right.nd rfl (.inl rfl) d_int)
    (d_scons (d_sfor (vs := [3]) PassesOwn.never rfl (d_range1 rfl T.z_range (d_cons (d_blt c_len rfl T.z_len (by decide +kernel) (d_cons (d_var (pv 1)) d_nil)) d_nil)) (d_gname (i := 3) sc__law_right.nd rfl (.inl rfl) (by decide)) (d_sone (d_sset (i := 2) sc__law_right.nd rfl (.inl rfl) (d_bin o_add (d_var (pv 2)) (d_bin o_mul (d_ix (d_var (pv 1)) (d_var (pv 3))) (d_ix (d_ix (d_var (pv 0)) d_int) (d_var (pv 3))))))))
    (d_sone (d_sret (d_cmp (o_eq hr.u64) (d_bin o_modI (d_bty c_int rfl T.z_int (by decide +kernel) (d_cons (d_var (pv 2)) d_nil)) (d_ix (d_var (pv 0)) d_int)) d_int (by first | exact nobehind _ (by decide) (by decide) | rfl))))))
abbrev N__law_numbers : List Str := ["scheme", "rows", "place", "later", "row", "item"]
theorem sc__law_numbers : FnScope N__law_numbers ["scheme"] (defScope st__law_numbers) := ⟨rfl, rfl, rfl, by decide +kernel, rfl, by decide +kernel, by decide +kernel⟩
def sm__law_numbers : SM :=
    (sSeq (sSet (gN 1) (eOfL (eLs (eAc (eTup eA0) eA0))))
    (sSeq (sFor (iR1 (eAc (eCall dLen (eAc (eB dIx (eV 0) (eC (.int 0))) eA0)) eA0)) (gN 2) (sSeq (sSet (gN 3) (eOfL (eLs eA0)))
    (sSeq (sFor (iW (eV 1)) (gN 4) (sSet (gN 3) (eB dAdd (eV 3) (eOfL (cC [5] (iR1 (eAc (eC (.int 10)) eA0)) (gN 5) cYes (eB dAdd (eV 4) (eTup (eAc (eV 5) eA0))))))))
    (sSet (gN 1) (eV 3)))))
    (sRet (eOfL (cC [4] (iW (eV 1)) (gN 4) (tE (eCall mf__law_right (eAc (eV 0) (eAc (eV 4) eA0)))) (eV 4))))))
theorem dr__law_numbers {P : Program} {w : World} {K : PySem.W.Frag} {mg : Str → Option Value} {base : Heap} {a : Ad} (T : Txt K mg base a) (G__law_right : FnOk P w K mg base CX0 1 a.f__law_right a.d__law_right ["scheme", "number"] (spD K (Tb a) 2 mf__law_right)) (A : Around) (outer : List Env) (s : Shared) (H : Hp) (E : XK) (hr : Room 1 (A.deeper (envOfC "_law_numbers" (defScope st__law_numbers) s.heap.objs.size a.f__law_numbers (.ref a.c__law_numbers)))) :
    PSs (bcx P w K mg base N__law_numbers "_law_numbers" (defScope st__law_numbers) a.f__law_numbers a.c__law_numbers A outer s H E) (defBody st__law_numbers) (tDS K (Tb a) (sm__law_numbers)) := by
  unfold sm__law_numbers
  exact (d_scons (d_sset (i := 1) sc__law_numbers.nd rfl (.inl rfl) (d_ofNew (d_list (d_cons (d_tup d_nil) d_nil))))
    (d_scons (d_sfor (vs := [2]) PassesOwn.never rfl (d_range1 rfl T.z_range (d_cons (d_blt c_len rfl T.z_len (by decide +kernel) (d_cons (d_ix (d_var (pv 0)) d_int) d_nil)) d_nil)) (d_gname (i := 2) sc__law_numbers.nd rfl (.inl rfl) (by decide)) (d_scons (d_sset (i := 3) sc__law_numbers.nd rfl (.inl rfl) (d_ofNew (d_list d_nil)))
    (d_scons (d_sfor (vs := [4]) PassesOwn.never rfl (d_iter (d_var (pv 1))) (d_gname (i := 4) sc__law_numbers.nd rfl (.inr rfl) (by decide)) (d_sone (d_sset (i := 3) sc__law_numbers.nd rfl (.inl rfl) (d_bin o_add (d_var (pv 3)) (d_ofNew (d_lc (own := [("item", 5)]) rfl sc__law_numbers.nd (blkOk_by (by kernel_rfl)) (d_range1 rfl T.z_range (d_cons d_int d_nil)) (fun _ _ _ _ _ => (d_gname (i := 5) sc__law_numbers.nd rfl (by first | exact .inl rfl | exact .inr rfl) (by decide))) (fun _ _ _ _ _ => d_pts0) (fun _ _ _ _ _ => (d_bin o_add (d_var (pv 4)) (d_tup (d_cons (d_var (pv 5)) d_nil))))))))))
    (d_sone (d_sset (i := 1) sc__law_numbers.nd rfl (.inl rfl) (d_var (pv 3)))))))
    (d_sone (d_sret (d_ofNew (d_lc (own := [("row", 4)]) rfl sc__law_numbers.nd (blkOk_by (by kernel_rfl)) (d_iter (d_var (pv 1))) (fun _ _ _ _ _ => (d_gname (i := 4) sc__law_numbers.nd rfl (by first | exact .inl rfl | exact .inr rfl) (by decide))) (fun _ _ _ _ _ => (d_pts1 (d_tval (d_call G__law_right (hr.mono (by decide)) rfl T.m__law_right T.F__law_right.kp T.b__law_right rfl (d_cons (d_var (pv 0)) (d_cons (d_var (pv 4)) d_nil)) (eAc_len (eAc_len (fun _ _ _ => eA0_len))))))) (fun _ _ _ _ _ => (d_var (pv 4)))))))))
abbrev N__law_changed : List Str := ["number", "place", "item"]
theorem sc__law_changed : FnScope N__law_changed ["number", "place", "item"] (defScope st__law_changed) := ⟨rfl, rfl, rfl, by decide +kernel, rfl, by decide +kernel, by decide +kernel⟩
def sm__law_changed : SM :=
    (sRet (eB dAdd (eB dAdd (eSl (eV 0) eP0 (ePs (eV 1))) (eTup (eAc (eV 2) eA0))) (eSl (eV 0) (ePs (eB dAdd (eV 1) (eC (.int 1)))) eP0)))
theorem dr__law_changed {P : Program} {w : World} {K : PySem.W.Frag} {mg : Str → Option Value} {base : Heap} {a : Ad} (T : Txt K mg base a) (A : Around) (outer : List Env) (s : Shared) (H : Hp) (E : XK) (hr : Room 0 (A.deeper (envOfC "_law_changed" (defScope st__law_changed) s.heap.objs.size a.f__law_changed (.ref a.c__law_changed)))) :
    PSs (bcx P w K mg base N__law_changed "_law_changed" (defScope st__law_changed) a.f__law_changed a.c__law_changed A outer s H E) (defBody st__law_changed) (tDS K (Tb a) (sm__law_changed)) := by
  unfold sm__law_changed
  exact (d_sone (d_sret (d_bin o_add (d_bin o_add (d_sl (d_var (pv 0)) d_p0 (d_ps (d_var (pv 1)))) (d_tup (d_cons (d_var (pv 2)) d_nil))) (d_sl (d_var (pv 0)) (d_ps (d_bin o_add (d_var (pv 1)) d_int)) d_p0))))
abbrev N_law : List Str := ["script", "draws", "bases", "base", "many", "scheme", "weights", "turn", "number", "marks", "place", "due", "plain", "told", "numbers", "bad", "wrong", "odd", "item", "step", "row", "one"]
theorem sc_law : FnScope N_law ["script"] (defScope st_law) := ⟨rfl, rfl, rfl, by decide +kernel, rfl, by decide +kernel, by decide +kernel⟩
def sm_law : SM :=
    (sSeq (sDraws 0 1 P63)
    (sSeq (sSet (gN 2) (eOfL (eLs (eAc (eB dAdd (eC (.int 2)) (eCallO 1 mf__law_take (eAc (eC (.int 10)) eA0))) (eAc (eB dIx (eOfL (eLs (eAc (eC (.int 10)) (eAc (eC (.int 11)) (eAc (eC (.int 97)) eA0))))) (eCallO 1 mf__law_take (eAc (eC (.int 3)) eA0))) (eAc (eB dAdd (eC (.int 2)) (eCallO 1 mf__law_take (eAc (eC (.int 96)) eA0))) eA0))))))
    (sSeq (sSet (gTupD 2 (gConsD (gN 3) (gConsD (gN 4) gNilD))) (eTup (eAc (eB dIx (eV 2) (eCallO 1 mf__law_take (eAc (eC (.int 3)) eA0))) (eAc (eB dAdd (eC (.int 2)) (eCallO 1 mf__law_take (eAc (eB dIx (eOfL (eLs (eAc (eC (.int 2)) (eAc (eC (.int 9)) eA0)))) (eCall dInt (eAc (eB dEq (eCallO 1 mf__law_take (eAc (eC (.int 4)) eA0)) (eC (.int 0))) eA0))) eA0))) eA0))))
    (sSeq (sSet (gN 5) (eTup (eAc (eCall dTuple (eAc (eOfL (cC [10] (iR1 (eAc (eV 4) eA0)) (gN 10) cYes (eB dAdd (eC (.int 1)) (eCallO 1 mf__law_take (eAc (eB dIx (eOfL (eLs (eAc (eC (.int 3)) (eAc (eC (.int 12)) (eAc (eC (.int 96)) eA0))))) (eCallO 1 mf__law_take (eAc (eC (.int 3)) eA0))) eA0))))) eA0)) (eAc (eV 3) eA0))))
    (sSeq (sSet (gN 6) (eB dIx (eV 5) (eC (.int 0))))
    (sSeq (sIf (tE (eB dIsNot (eCall mf_is_scheme (eAc (eV 5) eA0)) (eC (.bool true)))) (sRet (eC (.bool false))) sNil)
    (sSeq (sFor (iR1 (eAc (eC (.int 8)) eA0)) (gN 7) (sSeq (sSet (gN 8) (eCall dTuple (eAc (eOfL (cC [10] (iR1 (eAc (eV 4) eA0)) (gN 10) cYes (eCallO 1 mf__law_take (eAc (eC (.int 10)) eA0)))) eA0)))
    (sSeq (sSet (gN 9) (eOfL (cC [18] (iR1 (eAc (eC (.int 10)) eA0)) (gN 18) (tE (eCall mf__law_right (eAc (eV 5) (eAc (eB dAdd (eSl (eV 8) eP0 (ePs (eU dNeg (eC (.int 1))))) (eTup (eAc (eV 18) eA0))) eA0)))) (eV 18))))
    (sIf (tOr (tE (eB dIsNot (eCall mf_is_bar_number (eAc (eV 5) (eAc (eV 8) eA0))) (eC (.bool true)))) (tNot (tE (eCall mf__law_same (eAc (eOfL (eLs (eAc (eCall mf_is_right (eAc (eV 5) (eAc (eV 8) eA0))) (eAc (eCall mf_mark_for (eAc (eV 5) (eAc (eSl (eV 8) eP0 (ePs (eU dNeg (eC (.int 1))))) eA0))) eA0)))) (eAc (eOfL (eLs (eAc (eCall mf__law_right (eAc (eV 5) (eAc (eV 8) eA0))) (eAc (eB dIx (eB dAdd (eV 9) (eOfL (eLs (eAc (eC .none) eA0)))) (eC (.int 0))) eA0)))) eA0)))))) (sRet (eC (.bool false))) sNil))))
    (sSeq (sFor (iR1 (eAc (eV 4) eA0)) (gN 10) (sSeq (sSet (gN 11) (eB dEq (eOfL (cC [19] (iR2 (eAc (eC (.int 1)) (eAc (eC (.int 10)) eA0))) (gN 19) (tE (eB dEq (eB dModI (eCall dInt (eAc (eB dMul (eB dIx (eV 6) (eV 10)) (eV 19)) eA0)) (eV 3)) (eC (.int 0)))) (eV 19))) (eOfL (eLs eA0))))
    (sIf (tNot (tE (eCall mf__law_same (eAc (eCall mf_shows_wrong (eAc (eV 5) (eAc (eV 10) eA0))) (eAc (eV 11) eA0))))) (sRet (eC (.bool false))) sNil)))
    (sSeq (sFor (iR1 (eAc (eB dSub (eV 4) (eC (.int 1))) eA0)) (gN 10) (sSeq (sSet (gN 12) (eB dEq (eOfL (cC [19] (iR2 (eAc (eC (.int 1)) (eAc (eC (.int 10)) eA0))) (gN 19) (tE (eB dEq (eB dModI (eCall dInt (eAc (eB dMul (eB dSub (eB dIx (eV 6) (eV 10)) (eB dIx (eV 6) (eB dAdd (eV 10) (eC (.int 1))))) (eV 19)) eA0)) (eV 3)) (eC (.int 0)))) (eV 19))) (eOfL (eLs eA0))))
    (sSeq (sSet (gN 13) (eCall mf_shows_exchange (eAc (eV 5) (eAc (eV 10) eA0))))
    (sSeq (sIf (tOr (tNot (tE (eU (dIsT "bool") (eV 13)))) (tAnd (tE (eV 12)) (tNot (tE (eV 13))))) (sRet (eC (.bool false))) sNil)
    (sIf (tAnd (tE (eB dLt (eV 3) (eC (.int 11)))) (tAnd (tE (eB dInA (eC (.int 1)) (eB dAdd (eSl (eV 6) eP0 (ePs (eV 10))) (eSl (eV 6) (ePs (eB dAdd (eV 10) (eC (.int 2)))) eP0)))) (tE (eB dNe (eV 13) (eV 12))))) (sRet (eC (.bool false))) sNil)))))
    (sSeq (sIf (tE (eB dLt (eV 4) (eC (.int 4)))) (sSeq (sSet (gN 14) (eCall mf__law_numbers (eAc (eV 5) eA0)))
    (sSeq (sFor (iR1 (eAc (eV 4) eA0)) (gN 10) (sSeq (sSet (gN 15) (eOfL (cC [20] (iW (eV 14)) (gN 20) (tE (eB dNe (eOfL (cC [18] (iR1 (eAc (eC (.int 10)) eA0)) (gN 18) (tAnd (tE (eB dNe (eV 18) (eB dIx (eV 20) (eV 10)))) (tE (eCall mf__law_right (eAc (eV 5) (eAc (eCall mf__law_changed (eAc (eV 20) (eAc (eV 10) (eAc (eV 18) eA0)))) eA0))))) (eV 18))) (eOfL (eLs eA0)))) (eV 20))))
    (sIf (tE (eB dNe (eB dEq (eV 15) (eOfL (eLs eA0))) (eCall mf_shows_wrong (eAc (eV 5) (eAc (eV 10) eA0))))) (sRet (eC (.bool false))) sNil)))
    (sFor (iR1 (eAc (eB dSub (eV 4) (eC (.int 1))) eA0)) (gN 10) (sSeq (sSet (gN 15) (eOfL (cC [20] (iW (eV 14)) (gN 20) (tAnd (tE (eB dNe (eB dIx (eV 20) (eV 10)) (eB dIx (eV 20) (eB dAdd (eV 10) (eC (.int 1)))))) (tE (eCall mf__law_right (eAc (eV 5) (eAc (eB dAdd (eB dAdd (eSl (eV 20) eP0 (ePs (eV 10))) (eTup (eAc (eB dIx (eV 20) (eB dAdd (eV 10) (eC (.int 1)))) (eAc (eB dIx (eV 20) (eV 10)) eA0)))) (eSl (eV 20) (ePs (eB dAdd (eV 10) (eC (.int 2)))) eP0)) eA0))))) (eV 20))))
    (sIf (tE (eB dNe (eB dEq (eV 15) (eOfL (eLs eA0))) (eCall mf_shows_exchange (eAc (eV 5) (eAc (eV 10) eA0))))) (sRet (eC (.bool false))) sNil))))) sNil)
    (sSeq (sSet (gN 16) (eOfL (eLs (eAc (eCall dList (eAc (eV 8) eA0)) (eAc (eSl (eV 8) (ePs (eC (.int 1))) eP0) (eAc (eB dAdd (eV 8) (eTup (eAc (eC (.int 0)) eA0))) (eAc (eC .none) (eAc (eC (.str "number")) (eAc (eB dAdd (eTup (eAc (eC (.int 10)) eA0)) (eSl (eV 8) (ePs (eC (.int 1))) eP0)) (eAc (eB dAdd (eTup (eAc (eU dNeg (eC (.int 1))) eA0)) (eSl (eV 8) (ePs (eC (.int 1))) eP0)) (eAc (eB dAdd (eTup (eAc (eC .none) eA0)) (eSl (eV 8) (ePs (eC (.int 1))) eP0)) (eAc (eB dAdd (eTup (eAc (eC (.bool true)) eA0)) (eSl (eV 8) (ePs (eC (.int 1))) eP0)) eA0))))))))))))
    (sSeq (sSet (gN 17) (eOfL (eLs (eAc (eTup (eAc (eV 6) eA0)) (eAc (eTup (eAc (eV 6) (eAc (eV 3) (eAc (eC (.int 0)) eA0)))) (eAc (eCall dList (eAc (eV 5) eA0)) (eAc (eTup (eAc (eTup (eAc (eC (.int 1)) eA0)) (eAc (eV 3) eA0))) (eAc (eTup (eAc (eB dMul (eTup (eAc (eC (.int 1)) eA0)) (eC (.int 11))) (eAc (eV 3) eA0))) (eAc (eTup (eAc (eCall dList (eAc (eV 6) eA0)) (eAc (eV 3) eA0))) (eAc (eTup (eAc (eTup (eAc (eC (.int 0)) (eAc (eC (.int 1)) eA0))) (eAc (eV 3) eA0))) (eAc (eTup (eAc (eTup (eAc (eC (.int 97)) (eAc (eC (.int 1)) eA0))) (eAc (eV 3) eA0))) (eAc (eTup (eAc (eTup (eAc (eC .none) (eAc (eC (.int 1)) eA0))) (eAc (eV 3) eA0))) (eAc (eTup (eAc (eTup (eAc (eC (.bool true)) (eAc (eC (.int 1)) eA0))) (eAc (eV 3) eA0))) eA0)))))))))))))
    (sSeq (sSet (gN 17) (eB dAdd (eV 17) (eOfL (eLs (eAc (eTup (eAc (eV 6) (eAc (eC (.int 1)) eA0))) (eAc (eTup (eAc (eV 6) (eAc (eC (.int 98)) eA0))) (eAc (eTup (eAc (eV 6) (eAc (eC .none) eA0))) (eAc (eTup (eAc (eV 6) (eAc (eC (.bool true)) eA0))) (eAc (eC .none) (eAc (eC (.str "scheme")) eA0))))))))))
    (sRet (eAnd (eB dEq (eOfL (cC [21] (iW (eV 16)) (gN 21) (tE (eB dIsNot (eCall mf_is_bar_number (eAc (eV 5) (eAc (eV 21) eA0))) (eC (.bool false)))) (eV 21))) (eOfL (eLs eA0))) (eB dEq (eOfL (cC [21] (iW (eV 17)) (gN 21) (tE (eB dIsNot (eCall mf_is_scheme (eAc (eV 21) eA0)) (eC (.bool false)))) (eV 21))) (eOfL (eLs eA0))))))))))))))))))
theorem dr_law {P : Program} {w : World} {K : PySem.W.Frag} {mg : Str → Option Value} {base : Heap} {a : Ad} (T : Txt K mg base a) (G__law_draws : FnOk P w K mg base CX0 1 a.f__law_draws a.d__law_draws ["script"] (spSN K (Tb a) P63)) (G__law_take : FnOk P w K mg base CX0 1 a.f__law_take a.d__law_take ["draws", "bound"] (spO K (Tb a) 1 mf__law_take)) (G_is_scheme : FnOk P w K mg base CX0 3 a.f_is_scheme a.d_is_scheme ["value"] (spD K (Tb a) 1 mf_is_scheme)) (G__law_right : FnOk P w K mg base CX0 1 a.f__law_right a.d__law_right ["scheme", "number"] (spD K (Tb a) 2 mf__law_right)) (G_is_bar_number : FnOk P w K mg base CX0 3 a.f_is_bar_number a.d_is_bar_number ["scheme", "value"] (spD K (Tb a) 2 mf_is_bar_number)) (G__law_same : FnOk P w K mg base CX0 2 a.f__law_same a.d__law_same ["actual", "due"] (spD K (Tb a) 2 mf__law_same)) (G_mark_for : FnOk P w K mg base CX0 3 a.f_mark_for a.d_mark_for ["scheme", "items"] (spD K (Tb a) 2 mf_mark_for)) (G_is_right : FnOk P w K mg base CX0 2 a.f_is_right a.d_is_right ["scheme", "number"] (spD K (Tb a) 2 mf_is_right)) (G_shows_wrong : FnOk P w K mg base CX0 2 a.f_shows_wrong a.d_shows_wrong ["scheme", "place"] (spD K (Tb a) 2 mf_shows_wrong)) (G_shows_exchange : FnOk P w K mg base CX0 2 a.f_shows_exchange a.d_shows_exchange ["scheme", "place"] (spD K (Tb a) 2 mf_shows_exchange)) (G__law_numbers : FnOk P w K mg base CX0 2 a.f__law_numbers a.d__law_numbers ["scheme"] (spD K (Tb a) 1 mf__law_numbers)) (G__law_changed : FnOk P w K mg base CX0 1 a.f__law_changed a.d__law_changed ["number", "place", "item"] (spD K (Tb a) 3 mf__law_changed)) (A : Around) (outer : List Env) (s : Shared) (H : Hp) (E : XK) (hr : Room 3 (A.deeper (envOfC "law" (defScope st_law) s.heap.objs.size a.f_law (.ref a.c_law)))) :
    PSs (bcx P w K mg base N_law "law" (defScope st_law) a.f_law a.c_law A outer s H E) (defBody st_law) (tDS K (Tb a) (sm_law)) := by
  unfold sm_law
  exact (d_scons (d_draws (i := 0) (j := 1) G__law_draws (hr.mono (by decide)) rfl T.m__law_draws T.F__law_draws.kp T.b__law_draws (pv 0) sc_law.nd rfl (.inr rfl))
    (d_scons (d_sset (i := 2) sc_law.nd rfl (.inl rfl) (d_ofNew (d_list (d_cons (d_bin o_add d_int (d_callO (i := 1) G__law_take (hr.mono (by decide)) rfl T.m__law_take T.F__law_take.kp T.b__law_take (pv 1) (d_cons d_int d_nil) (eAc_len (fun _ _ _ => eA0_len)))) (d_cons (d_ix (d_ofNew (d_list (d_cons d_int (d_cons d_int (d_cons d_int d_nil))))) (d_callO (i := 1) G__law_take (hr.mono (by decide)) rfl T.m__law_take T.F__law_take.kp T.b__law_take (pv 1) (d_cons d_int d_nil) (eAc_len (fun _ _ _ => eA0_len)))) (d_cons (d_bin o_add d_int (d_callO (i := 1) G__law_take (hr.mono (by decide)) rfl T.m__law_take T.F__law_take.kp T.b__law_take (pv 1) (d_cons d_int d_nil) (eAc_len (fun _ _ _ => eA0_len)))) d_nil))))))
    (d_scons (d_sasg (vs := [3, 4]) (d_tup (d_cons (d_ix (d_var (pv 2)) (d_callO (i := 1) G__law_take (hr.mono (by decide)) rfl T.m__law_take T.F__law_take.kp T.b__law_take (pv 1) (d_cons d_int d_nil) (eAc_len (fun _ _ _ => eA0_len)))) (d_cons (d_bin o_add d_int (d_callO (i := 1) G__law_take (hr.mono (by decide)) rfl T.m__law_take T.F__law_take.kp T.b__law_take (pv 1) (d_cons (d_ix (d_ofNew (d_list (d_cons d_int (d_cons d_int d_nil)))) (d_bty c_int rfl T.z_int (by decide +kernel) (d_cons (d_cmp (o_eq hr.u64) (d_callO (i := 1) G__law_take (hr.mono (by decide)) rfl T.m__law_take T.F__law_take.kp T.b__law_take (pv 1) (d_cons d_int d_nil) (eAc_len (fun _ _ _ => eA0_len))) d_int (by first | exact nobehind _ (by decide) (by decide) | rfl)) d_nil))) d_nil) (eAc_len (fun _ _ _ => eA0_len)))) d_nil))) (d_gtup (n := 2) rfl (d_gcons (d_gname (i := 3) sc_law.nd rfl (.inr rfl) (by decide)) (d_gcons (d_gname (i := 4) sc_law.nd rfl (.inl rfl) (by decide)) d_gnil))))
    (d_scons (d_sset (i := 5) sc_law.nd rfl (.inr rfl) (d_tup (d_cons (d_bty c_tuple rfl T.z_tuple (by decide +kernel) (d_cons (d_ofNew (d_lc (own := [("place", 10)]) rfl sc_law.nd (blkOk_by (by kernel_rfl)) (d_range1 rfl T.z_range (d_cons (d_var (pv 4)) d_nil)) (fun _ _ _ _ _ => (d_gname (i := 10) sc_law.nd rfl (by first | exact .inl rfl | exact .inr rfl) (by decide))) (fun _ _ _ _ _ => d_pts0) (fun _ _ _ _ _ => (d_bin o_add d_int (d_callO (i := 1) G__law_take (hr.mono (by decide)) rfl T.m__law_take T.F__law_take.kp T.b__law_take (pv 1) (d_cons (d_ix (d_ofNew (d_list (d_cons d_int (d_cons d_int (d_cons d_int d_nil))))) (d_callO (i := 1) G__law_take (hr.mono (by decide)) rfl T.m__law_take T.F__law_take.kp T.b__law_take (pv 1) (d_cons d_int d_nil) (eAc_len (fun _ _ _ => eA0_len)))) d_nil) (eAc_len (fun _ _ _ => eA0_len))))))) d_nil)) (d_cons (d_var (pv 3)) d_nil))))
    (d_scons (d_sset (i := 6) sc_law.nd rfl (.inr rfl) (d_ix (d_var (pv 5)) d_int))
    (d_scons (d_sif (d_tcmp o_isNot (d_call G_is_scheme (hr.mono (by decide)) rfl T.m_is_scheme T.F_is_scheme.kp T.b_is_scheme rfl (d_cons (d_var (pv 5)) d_nil) (eAc_len (fun _ _ _ => eA0_len))) d_bl (by first | exact nobehind _ (by decide) (by decide) | rfl)) (d_sone (d_sret d_bl)) d_snil)
    (d_scons (d_sfor (vs := [7]) PassesOwn.never rfl (d_range1 rfl T.z_range (d_cons d_int d_nil)) (d_gname (i := 7) sc_law.nd rfl (.inl rfl) (by decide)) (d_scons (d_sset (i := 8) sc_law.nd rfl (.inr rfl) (d_bty c_tuple rfl T.z_tuple (by decide +kernel) (d_cons (d_ofNew (d_lc (own := [("place", 10)]) rfl sc_law.nd (blkOk_by (by kernel_rfl)) (d_range1 rfl T.z_range (d_cons (d_var (pv 4)) d_nil)) (fun _ _ _ _ _ => (d_gname (i := 10) sc_law.nd rfl (by first | exact .inl rfl | exact .inr rfl) (by decide))) (fun _ _ _ _ _ => d_pts0) (fun _ _ _ _ _ => (d_callO (i := 1) G__law_take (hr.mono (by decide)) rfl T.m__law_take T.F__law_take.kp T.b__law_take (pv 1) (d_cons d_int d_nil) (eAc_len (fun _ _ _ => eA0_len)))))) d_nil)))
    (d_scons (d_ssetLcF (own := [("item", 18)]) (i := 9) rfl sc_law.nd rfl rfl (sw_true rfl rfl rfl (by decide +kernel)) (blkOk_by (by kernel_rfl)) (d_range1 rfl T.z_range (d_cons d_int d_nil)) (fun _ _ _ _ _ => (d_gname (i := 18) sc_law.nd rfl (by first | exact .inl rfl | exact .inr rfl) (by decide))) (fun _ _ _ _ _ => (d_pts1 (d_tval (d_call G__law_right (hr.mono (by decide)) rfl T.m__law_right T.F__law_right.kp T.b__law_right rfl (d_cons (d_var (pv 5)) (d_cons (d_bin o_add (d_sl (d_var (pv 8)) d_p0 (d_ps (d_un un_negD d_int))) (d_tup (d_cons (d_var (pv 18)) d_nil))) d_nil)) (eAc_len (eAc_len (fun _ _ _ => eA0_len))))))) (fun _ _ _ _ _ => (d_var (pv 18))))
    (d_sone (d_sif (PW.pt (d_wor (d_tcmp o_isNot (d_call G_is_bar_number (hr.mono (by decide)) rfl T.m_is_bar_number T.F_is_bar_number.kp T.b_is_bar_number rfl (d_cons (d_var (pv 5)) (d_cons (d_var (pv 8)) d_nil)) (eAc_len (eAc_len (fun _ _ _ => eA0_len)))) d_bl (by first | exact nobehind _ (by decide) (by decide) | rfl)) (d_wor1 (d_tnot (d_tval (d_call G__law_same (hr.mono (by decide)) rfl T.m__law_same T.F__law_same.kp T.b__law_same rfl (d_cons (d_ofNew (d_list (d_cons (d_call G_is_right (hr.mono (by decide)) rfl T.m_is_right T.F_is_right.kp T.b_is_right rfl (d_cons (d_var (pv 5)) (d_cons (d_var (pv 8)) d_nil)) (eAc_len (eAc_len (fun _ _ _ => eA0_len)))) (d_cons (d_call G_mark_for (hr.mono (by decide)) rfl T.m_mark_for T.F_mark_for.kp T.b_mark_for rfl (d_cons (d_var (pv 5)) (d_cons (d_sl (d_var (pv 8)) d_p0 (d_ps (d_un un_negD d_int))) d_nil)) (eAc_len (eAc_len (fun _ _ _ => eA0_len)))) d_nil)))) (d_cons (d_ofNew (d_list (d_cons (d_call G__law_right (hr.mono (by decide)) rfl T.m__law_right T.F__law_right.kp T.b__law_right rfl (d_cons (d_var (pv 5)) (d_cons (d_var (pv 8)) d_nil)) (eAc_len (eAc_len (fun _ _ _ => eA0_len)))) (d_cons (d_ix (d_bin o_add (d_var (pv 9)) (d_ofNew (d_list (d_cons d_non d_nil)))) d_int) d_nil)))) d_nil)) (eAc_len (eAc_len (fun _ _ _ => eA0_len))))))))) (d_sone (d_sret d_bl)) d_snil)))))
    (d_scons (d_sfor (vs := [10]) PassesOwn.never rfl (d_range1 rfl T.z_range (d_cons (d_var (pv 4)) d_nil)) (d_gname (i := 10) sc_law.nd rfl (.inr rfl) (by decide)) (d_scons (d_sset (i := 11) sc_law.nd rfl (.inl rfl) (d_cmp (o_eq hr.u64) (d_ofNew (d_lc (own := [("step", 19)]) rfl sc_law.nd (blkOk_by (by kernel_rfl)) (d_range2 rfl T.z_range (d_cons d_int (d_cons d_int d_nil))) (fun _ _ _ _ _ => (d_gname (i := 19) sc_law.nd rfl (by first | exact .inl rfl | exact .inr rfl) (by decide))) (fun _ _ _ _ _ => (d_pts1 (d_tcmp (o_eq hr.u64) (d_bin o_modI (d_bty c_int rfl T.z_int (by decide +kernel) (d_cons (d_bin o_mul (d_ix (d_var (pv 6)) (d_var (pv 10))) (d_var (pv 19))) d_nil)) (d_var (pv 3))) d_int (by first | exact nobehind _ (by decide) (by decide) | rfl)))) (fun _ _ _ _ _ => (d_var (pv 19))))) (d_ofNew (d_list d_nil)) (by first | exact nobehind _ (by decide) (by decide) | rfl)))
    (d_sone (d_sif (d_tnot (d_tval (d_call G__law_same (hr.mono (by decide)) rfl T.m__law_same T.F__law_same.kp T.b__law_same rfl (d_cons (d_call G_shows_wrong (hr.mono (by decide)) rfl T.m_shows_wrong T.F_shows_wrong.kp T.b_shows_wrong rfl (d_cons (d_var (pv 5)) (d_cons (d_var (pv 10)) d_nil)) (eAc_len (eAc_len (fun _ _ _ => eA0_len)))) (d_cons (d_var (pv 11)) d_nil)) (eAc_len (eAc_len (fun _ _ _ => eA0_len)))))) (d_sone (d_sret d_bl)) d_snil))))
    (d_scons (d_sfor (vs := [10]) PassesOwn.never rfl (d_range1 rfl T.z_range (d_cons (d_bin o_sub (d_var (pv 4)) d_int) d_nil)) (d_gname (i := 10) sc_law.nd rfl (.inr rfl) (by decide)) (d_scons (d_sset (i := 12) sc_law.nd rfl (.inl rfl) (d_cmp (o_eq hr.u64) (d_ofNew (d_lc (own := [("step", 19)]) rfl sc_law.nd (blkOk_by (by kernel_rfl)) (d_range2 rfl T.z_range (d_cons d_int (d_cons d_int d_nil))) (fun _ _ _ _ _ => (d_gname (i := 19) sc_law.nd rfl (by first | exact .inl rfl | exact .inr rfl) (by decide))) (fun _ _ _ _ _ => (d_pts1 (d_tcmp (o_eq hr.u64) (d_bin o_modI (d_bty c_int rfl T.z_int (by decide +kernel) (d_cons (d_bin o_mul (d_bin o_sub (d_ix (d_var (pv 6)) (d_var (pv 10))) (d_ix (d_var (pv 6)) (d_bin o_add (d_var (pv 10)) d_int))) (d_var (pv 19))) d_nil)) (d_var (pv 3))) d_int (by first | exact nobehind _ (by decide) (by decide) | rfl)))) (fun _ _ _ _ _ => (d_var (pv 19))))) (d_ofNew (d_list d_nil)) (by first | exact nobehind _ (by decide) (by decide) | rfl)))
    (d_scons (d_sset (i := 13) sc_law.nd rfl (.inl rfl) (d_call G_shows_exchange (hr.mono (by decide)) rfl T.m_shows_exchange T.F_shows_exchange.kp T.b_shows_exchange rfl (d_cons (d_var (pv 5)) (d_cons (d_var (pv 10)) d_nil)) (eAc_len (eAc_len (fun _ _ _ => eA0_len)))))
    (d_scons (d_sif (PW.pt (d_wor (d_tnot (d_tval (d_isi ty_bool rfl T.z_isinstance rfl T.z_bool (by decide +kernel) (d_var (pv 13))))) (d_wor1 (PW.pt (d_wand (d_tval (d_var (pv 12))) (d_wand1 (d_tnot (d_tval (d_var (pv 13)))))))))) (d_sone (d_sret d_bl)) d_snil)
    (d_sone (d_sif (PW.pt (d_wand (d_tcmp o_ltI (d_var (pv 3)) d_int (by first | exact nobehind _ (by decide) (by decide) | rfl)) (d_wand (d_tcmp (o_inA hr.u65) d_int (d_bin o_add (d_sl (d_var (pv 6)) d_p0 (d_ps (d_var (pv 10)))) (d_sl (d_var (pv 6)) (d_ps (d_bin o_add (d_var (pv 10)) d_int)) d_p0)) (by first | exact nobehind _ (by decide) (by decide) | rfl)) (d_wand1 (d_tcmp (o_ne hr.u64) (d_var (pv 13)) (d_var (pv 12)) (by first | exact nobehind _ (by decide) (by decide) | rfl)))))) (d_sone (d_sret d_bl)) d_snil))))))
    (d_scons (d_sif (d_tcmp o_ltI (d_var (pv 4)) d_int (by first | exact nobehind _ (by decide) (by decide) | rfl)) (d_scons (d_sset (i := 14) sc_law.nd rfl (.inl rfl) (d_call G__law_numbers (hr.mono (by decide)) rfl T.m__law_numbers T.F__law_numbers.kp T.b__law_numbers rfl (d_cons (d_var (pv 5)) d_nil) (eAc_len (fun _ _ _ => eA0_len))))
    (d_scons (d_sfor (vs := [10]) PassesOwn.never rfl (d_range1 rfl T.z_range (d_cons (d_var (pv 4)) d_nil)) (d_gname (i := 10) sc_law.nd rfl (.inr rfl) (by decide)) (d_scons (d_ssetLcF (own := [("row", 20)]) (i := 15) rfl sc_law.nd rfl rfl (sw_true rfl rfl rfl (by decide +kernel)) (blkOk_by (by kernel_rfl)) (d_iter (d_var (pv 14))) (fun _ _ _ _ _ => (d_gname (i := 20) sc_law.nd rfl (by first | exact .inl rfl | exact .inr rfl) (by decide))) (fun _ _ _ _ _ => (d_pts1 (d_tcmp (o_ne hr.u64) (d_ofNew (d_lc (own := [("item", 18)]) rfl sc_law.nd (blkOk_by (by kernel_rfl)) (d_range1 rfl T.z_range (d_cons d_int d_nil)) (fun _ _ _ _ _ => (d_gname (i := 18) sc_law.nd rfl (by first | exact .inl rfl | exact .inr rfl) (by decide))) (fun _ _ _ _ _ => (d_pts1 (PW.pt (d_wand (d_tcmp (o_ne hr.u64) (d_var (pv 18)) (d_ix (d_var (pv 20)) (d_var (pv 10))) (by first | exact nobehind _ (by decide) (by decide) | rfl)) (d_wand1 (d_tval (d_call G__law_right (hr.mono (by decide)) rfl T.m__law_right T.F__law_right.kp T.b__law_right rfl (d_cons (d_var (pv 5)) (d_cons (d_call G__law_changed (hr.mono (by decide)) rfl T.m__law_changed T.F__law_changed.kp T.b__law_changed rfl (d_cons (d_var (pv 20)) (d_cons (d_var (pv 10)) (d_cons (d_var (pv 18)) d_nil))) (eAc_len (eAc_len (eAc_len (fun _ _ _ => eA0_len))))) d_nil)) (eAc_len (eAc_len (fun _ _ _ => eA0_len)))))))))) (fun _ _ _ _ _ => (d_var (pv 18))))) (d_ofNew (d_list d_nil)) (by first | exact nobehind _ (by decide) (by decide) | rfl)))) (fun _ _ _ _ _ => (d_var (pv 20))))
    (d_sone (d_sif (d_tcmp (o_ne hr.u64) (d_cmp (o_eq hr.u64) (d_var (pv 15)) (d_ofNew (d_list d_nil)) (by first | exact nobehind _ (by decide) (by decide) | rfl)) (d_call G_shows_wrong (hr.mono (by decide)) rfl T.m_shows_wrong T.F_shows_wrong.kp T.b_shows_wrong rfl (d_cons (d_var (pv 5)) (d_cons (d_var (pv 10)) d_nil)) (eAc_len (eAc_len (fun _ _ _ => eA0_len)))) (by first | exact nobehind _ (by decide) (by decide) | rfl)) (d_sone (d_sret d_bl)) d_snil))))
    (d_sone (d_sfor (vs := [10]) PassesOwn.never rfl (d_range1 rfl T.z_range (d_cons (d_bin o_sub (d_var (pv 4)) d_int) d_nil)) (d_gname (i := 10) sc_law.nd rfl (.inr rfl) (by decide)) (d_scons (d_ssetLcF (own := [("row", 20)]) (i := 15) rfl sc_law.nd rfl rfl (sw_true rfl rfl rfl (by decide +kernel)) (blkOk_by (by kernel_rfl)) (d_iter (d_var (pv 14))) (fun _ _ _ _ _ => (d_gname (i := 20) sc_law.nd rfl (by first | exact .inl rfl | exact .inr rfl) (by decide))) (fun _ _ _ _ _ => (d_pts1 (PW.pt (d_wand (d_tcmp (o_ne hr.u64) (d_ix (d_var (pv 20)) (d_var (pv 10))) (d_ix (d_var (pv 20)) (d_bin o_add (d_var (pv 10)) d_int)) (by first | exact nobehind _ (by decide) (by decide) | rfl)) (d_wand1 (d_tval (d_call G__law_right (hr.mono (by decide)) rfl T.m__law_right T.F__law_right.kp T.b__law_right rfl (d_cons (d_var (pv 5)) (d_cons (d_bin o_add (d_bin o_add (d_sl (d_var (pv 20)) d_p0 (d_ps (d_var (pv 10)))) (d_tup (d_cons (d_ix (d_var (pv 20)) (d_bin o_add (d_var (pv 10)) d_int)) (d_cons (d_ix (d_var (pv 20)) (d_var (pv 10))) d_nil)))) (d_sl (d_var (pv 20)) (d_ps (d_bin o_add (d_var (pv 10)) d_int)) d_p0)) d_nil)) (eAc_len (eAc_len (fun _ _ _ => eA0_len)))))))))) (fun _ _ _ _ _ => (d_var (pv 20))))
    (d_sone (d_sif (d_tcmp (o_ne hr.u64) (d_cmp (o_eq hr.u64) (d_var (pv 15)) (d_ofNew (d_list d_nil)) (by first | exact nobehind _ (by decide) (by decide) | rfl)) (d_call G_shows_exchange (hr.mono (by decide)) rfl T.m_shows_exchange T.F_shows_exchange.kp T.b_shows_exchange rfl (d_cons (d_var (pv 5)) (d_cons (d_var (pv 10)) d_nil)) (eAc_len (eAc_len (fun _ _ _ => eA0_len)))) (by first | exact nobehind _ (by decide) (by decide) | rfl)) (d_sone (d_sret d_bl)) d_snil))))))) d_snil)
    (d_scons (d_sset (i := 16) sc_law.nd rfl (.inl rfl) (d_ofNew (d_list (d_cons (d_bty c_list rfl T.z_list (by decide +kernel) (d_cons (d_var (pv 8)) d_nil)) (d_cons (d_sl (d_var (pv 8)) (d_ps d_int) d_p0) (d_cons (d_bin o_add (d_var (pv 8)) (d_tup (d_cons d_int d_nil))) (d_cons d_non (d_cons d_str (d_cons (d_bin o_add (d_tup (d_cons d_int d_nil)) (d_sl (d_var (pv 8)) (d_ps d_int) d_p0)) (d_cons (d_bin o_add (d_tup (d_cons (d_un un_negD d_int) d_nil)) (d_sl (d_var (pv 8)) (d_ps d_int) d_p0)) (d_cons (d_bin o_add (d_tup (d_cons d_non d_nil)) (d_sl (d_var (pv 8)) (d_ps d_int) d_p0)) (d_cons (d_bin o_add (d_tup (d_cons d_bl d_nil)) (d_sl (d_var (pv 8)) (d_ps d_int) d_p0)) d_nil))))))))))))
    (d_scons (d_sset (i := 17) sc_law.nd rfl (.inl rfl) (d_ofNew (d_list (d_cons (d_tup (d_cons (d_var (pv 6)) d_nil)) (d_cons (d_tup (d_cons (d_var (pv 6)) (d_cons (d_var (pv 3)) (d_cons d_int d_nil)))) (d_cons (d_bty c_list rfl T.z_list (by decide +kernel) (d_cons (d_var (pv 5)) d_nil)) (d_cons (d_tup (d_cons (d_tup (d_cons d_int d_nil)) (d_cons (d_var (pv 3)) d_nil))) (d_cons (d_tup (d_cons (d_bin o_mul (d_tup (d_cons d_int d_nil)) d_int) (d_cons (d_var (pv 3)) d_nil))) (d_cons (d_tup (d_cons (d_bty c_list rfl T.z_list (by decide +kernel) (d_cons (d_var (pv 6)) d_nil)) (d_cons (d_var (pv 3)) d_nil))) (d_cons (d_tup (d_cons (d_tup (d_cons d_int (d_cons d_int d_nil))) (d_cons (d_var (pv 3)) d_nil))) (d_cons (d_tup (d_cons (d_tup (d_cons d_int (d_cons d_int d_nil))) (d_cons (d_var (pv 3)) d_nil))) (d_cons (d_tup (d_cons (d_tup (d_cons d_non (d_cons d_int d_nil))) (d_cons (d_var (pv 3)) d_nil))) (d_cons (d_tup (d_cons (d_tup (d_cons d_bl (d_cons d_int d_nil))) (d_cons (d_var (pv 3)) d_nil))) d_nil)))))))))))))
    (d_scons (d_sset (i := 17) sc_law.nd rfl (.inl rfl) (d_bin o_add (d_var (pv 17)) (d_ofNew (d_list (d_cons (d_tup (d_cons (d_var (pv 6)) (d_cons d_int d_nil))) (d_cons (d_tup (d_cons (d_var (pv 6)) (d_cons d_int d_nil))) (d_cons (d_tup (d_cons (d_var (pv 6)) (d_cons d_non d_nil))) (d_cons (d_tup (d_cons (d_var (pv 6)) (d_cons d_bl d_nil))) (d_cons d_non (d_cons d_str d_nil))))))))))
    (d_sone (d_sret (d_and (d_cmp (o_eq hr.u64) (d_ofNew (d_lc (own := [("one", 21)]) rfl sc_law.nd (blkOk_by (by kernel_rfl)) (d_iter (d_var (pv 16))) (fun _ _ _ _ _ => (d_gname (i := 21) sc_law.nd rfl (by first | exact .inl rfl | exact .inr rfl) (by decide))) (fun _ _ _ _ _ => (d_pts1 (d_tcmp o_isNot (d_call G_is_bar_number (hr.mono (by decide)) rfl T.m_is_bar_number T.F_is_bar_number.kp T.b_is_bar_number rfl (d_cons (d_var (pv 5)) (d_cons (d_var (pv 21)) d_nil)) (eAc_len (eAc_len (fun _ _ _ => eA0_len)))) d_bl (by first | exact nobehind _ (by decide) (by decide) | rfl)))) (fun _ _ _ _ _ => (d_var (pv 21))))) (d_ofNew (d_list d_nil)) (by first | exact nobehind _ (by decide) (by decide) | rfl)) (d_one (d_cmp (o_eq hr.u64) (d_ofNew (d_lc (own := [("one", 21)]) rfl sc_law.nd (blkOk_by (by kernel_rfl)) (d_iter (d_var (pv 17))) (fun _ _ _ _ _ => (d_gname (i := 21) sc_law.nd rfl (by first | exact .inl rfl | exact .inr rfl) (by decide))) (fun _ _ _ _ _ => (d_pts1 (d_tcmp o_isNot (d_call G_is_scheme (hr.mono (by decide)) rfl T.m_is_scheme T.F_is_scheme.kp T.b_is_scheme rfl (d_cons (d_var (pv 21)) d_nil) (eAc_len (fun _ _ _ => eA0_len))) d_bl (by first | exact nobehind _ (by decide) (by decide) | rfl)))) (fun _ _ _ _ _ => (d_var (pv 21))))) (d_ofNew (d_list d_nil)) (by first | exact nobehind _ (by decide) (by decide) | rfl)))))))))))))))))))

end K92

namespace K92
open PySem PySem.Spec PyProof.Rows L2 GxR DL
/-! ### the defs do so -/
theorem all_num {ws : List D} {a b : Int} {vs : List Nat} {g : GM} {e : EM D} {env : Ev} (h : ws.all okItem = true) (st : ∀ d, ∃ env1 env3, g d env = some env1 ∧ (okItem d = true → e env1 = some (.bool (isNum d a b), env3)) ∧ unE env3 vs = env) :
    aLoop false vs g cYes e ws env = some (ws.all fun x => isNum x a b, env) := by
  have := aLoop_eq (stop := false) (vs := vs) (g := g) (c := cYes) (e := e) (env := env) (fun x => isNum x a b) ws fun d hd => by
    obtain ⟨env1, env3, h1, h2, h3⟩ := st d
    exact ⟨env1, env1, env3, h1, rfl, h2 (List.all_eq_true.mp h d hd), h3⟩
  simpa using this
theorem sem_scheme : ∀ ds d, ds.length = 1 → mf_is_scheme ds = some d → sm_is_scheme (env0 N_is_scheme ds) (rets d) := by
  intro ds d hl hm
  obtain ⟨v, rfl⟩ := len1 hl
  clear hl
  unfold mf_is_scheme at hm
  simp only at hm
  split at hm
  · rename_i ok
    cases hm
    unfold sm_is_scheme
    simp only [N_is_scheme, env0, List.map_cons, List.map_nil, List.length_cons, List.length_nil, Nat.reduceAdd, Nat.reduceSub, List.replicate_succ, List.replicate_zero, List.cons_append, List.nil_append]
    cases v
    case tuple xs =>
      match xs, ok with
      | [], _ => rfl
      | [x], _ => cases x <;> rfl
      | x :: y :: z :: r, _ =>
        have h : ((((x :: y :: z :: r).length : Nat) : Int) == 2) = false := by
          rw [beq_eq_false_iff_ne]
          simp only [List.length_cons]
          omega
        have e1 : dLen [.tuple (x :: y :: z :: r)] = some (.int ((x :: y :: z :: r).length : Nat)) := rfl
        have e2 : isSch (.tuple (x :: y :: z :: r)) = false := by cases x <;> rfl
        rw [e2]
        generalize x :: y :: z :: r = xs at h e1 ⊢
        simp only [eC_ap, eV_ap, eB_ap, eU_ap, eAnd_ap, eOr_ap, tE_ap, tAnd_ap, tOr_ap, tNot_ap, eIf_ap, eCh_ap, eA0_ap, eAc_ap, eAs_ap, eTup_ap, eLs_ap, eOfL_ap, eIxO_ap, eP0_ap, ePs_ap, eSl_ap, iW_ap, iR1_ap, iR2_ap, iZp_ap, gN_ap, gNilD_ap, gConsD_ap, gTupD_ap, cYes_ap, sNil_ap, sSeq_ap, sIf_ap, sRet_ap, sRetN_ap, sSet_ap, sSetO_ap, sExp_ap, sBrk_ap, sCont_ap, sApp_ap, ePop_ap, sPut_ap, eCall_ap, eCallO_ap, eLenO_ap, sDk0_ap, sDput_ap, eSrtDk_ap, eDget_ap, eDin_ap, eRevO_ap, eLenS_ap, eIxS_ap, iSq_ap, nSeq_ap, nRet_ap, sDraws_ap, sAug_ap, sPar_ap, unE, reE, keepF, dIs, dNot, dNeg, dIsT, isTy, tyOf, rets, retsO, List.getElem?_cons_zero, List.getElem?_cons_succ, List.set_cons_zero, List.set_cons_succ, List.length_cons, List.length_nil, List.length_map, List.length_set, Nat.reduceAdd, Nat.reduceSub, Nat.reduceLT, Nat.reduceLeDiff, dAdd_i, dAdd_l, dAdd_t, dSub_i, dMul_i, dDiv_i, dModI_i, dLt_i, dLe_i, dGt_i, dGe_i, dEq_i, dNe_i, dEq_b, dNe_b, if_true, if_false, decide_true, decide_false, Bool.false_eq_true, Bool.not_true, Bool.not_false, and_true, true_and, and_self, or_true, true_or, reduceIte, Int.reduceNeg, Int.reducePow, Int.reduceLT, Int.reduceLE, Int.reduceGT, Int.reduceAdd, Int.reduceMul, Int.reduceSub, Int.reduceToNat, Nat.reducePow, Nat.reduceMul, Nat.reduceEqDiff, Int.reduceBEq, or_self, and_false, false_and, false_or, or_false, Bool.and_true, Bool.true_and, Bool.and_false, Bool.false_and, Bool.and_self, List.length_append, dAbs_i, Int.cast_ofNat_Int, beq_self_eq_true, String.reduceBEq, zip_l, zip_t, walk_l, walk_t, items_l, items_t, dLen_l, dLen_t, dTuple_l, dTuple_t, dList_l, dList_t, dInt_i, dSl_l, dSl_t, dIsNot_b, e1, h, String.reduceBEq, beq_self_eq_true]
      | [x, y], ok =>
        cases x
        case tuple ws =>
          unfold okSch at ok
          rw [Bool.and_eq_true] at ok
          have i0 : atI [PyData.tuple ws, y] 0 = some (.tuple ws) := rfl
          have i1 : atI [PyData.tuple ws, y] 1 = some y := rfl
          have ha := all_num (a := 1) (b := 96) (vs := [1]) (g := gN 1) (e := eCall mf_is_number (eAc (eV 1) (eAc (eC (.int 1)) (eAc (eB dSub (eC cv_MOST_BASE) (eC (.int 1))) eA0)))) (env := [.fz (.tuple [.tuple ws, y]), .un]) ok.1
            (fun d => ⟨[.fz (.tuple [.tuple ws, y]), .fz d], [.fz (.tuple [.tuple ws, y]), .fz d], rfl, fun hd => by simp only [eC_ap, eV_ap, eB_ap, eU_ap, eAnd_ap, eOr_ap, tE_ap, tAnd_ap, tOr_ap, tNot_ap, eIf_ap, eCh_ap, eA0_ap, eAc_ap, eAs_ap, eTup_ap, eLs_ap, eOfL_ap, eIxO_ap, eP0_ap, ePs_ap, eSl_ap, iW_ap, iR1_ap, iR2_ap, iZp_ap, gN_ap, gNilD_ap, gConsD_ap, gTupD_ap, cYes_ap, sNil_ap, sSeq_ap, sIf_ap, sRet_ap, sRetN_ap, sSet_ap, sSetO_ap, sExp_ap, sBrk_ap, sCont_ap, sApp_ap, ePop_ap, sPut_ap, eCall_ap, eCallO_ap, eLenO_ap, sDk0_ap, sDput_ap, eSrtDk_ap, eDget_ap, eDin_ap, eRevO_ap, eLenS_ap, eIxS_ap, iSq_ap, nSeq_ap, nRet_ap, sDraws_ap, sAug_ap, sPar_ap, unE, reE, keepF, dIs, dNot, dNeg, dIsT, isTy, tyOf, rets, retsO, List.getElem?_cons_zero, List.getElem?_cons_succ, List.set_cons_zero, List.set_cons_succ, List.length_cons, List.length_nil, List.length_map, List.length_set, Nat.reduceAdd, Nat.reduceSub, Nat.reduceLT, Nat.reduceLeDiff, dAdd_i, dAdd_l, dAdd_t, dSub_i, dMul_i, dDiv_i, dModI_i, dLt_i, dLe_i, dGt_i, dGe_i, dEq_i, dNe_i, dEq_b, dNe_b, if_true, if_false, decide_true, decide_false, Bool.false_eq_true, Bool.not_true, Bool.not_false, and_true, true_and, and_self, or_true, true_or, reduceIte, Int.reduceNeg, Int.reducePow, Int.reduceLT, Int.reduceLE, Int.reduceGT, Int.reduceAdd, Int.reduceMul, Int.reduceSub, Int.reduceToNat, Nat.reducePow, Nat.reduceMul, Nat.reduceEqDiff, Int.reduceBEq, or_self, and_false, false_and, false_or, or_false, Bool.and_true, Bool.true_and, Bool.and_false, Bool.false_and, Bool.and_self, List.length_append, dAbs_i, Int.cast_ofNat_Int, beq_self_eq_true, String.reduceBEq, zip_l, zip_t, walk_l, walk_t, items_l, items_t, dLen_l, dLen_t, dTuple_l, dTuple_t, dList_l, dList_t, dInt_i, dSl_l, dSl_t, dIsNot_b, number_eq hd], rfl⟩)
          have hy := number_eq (a := 2) (b := 97) ok.2
          have ex : isSch (.tuple [.tuple ws, y]) = (decide (2 ≤ ws.length) && decide (ws.length ≤ 10) && ws.all (fun x => isNum x 1 96) && isNum y 2 97) := rfl
          rw [ex]
          by_cases h2 : 2 ≤ ws.length
          · by_cases h10 : ws.length ≤ 10
            · have j2 : (2 : Int) ≤ (ws.length : Int) := by omega
              have j10 : (ws.length : Int) ≤ 10 := by omega
              simp only [eC_ap, eV_ap, eB_ap, eU_ap, eAnd_ap, eOr_ap, tE_ap, tAnd_ap, tOr_ap, tNot_ap, eIf_ap, eCh_ap, eA0_ap, eAc_ap, eAs_ap, eTup_ap, eLs_ap, eOfL_ap, eIxO_ap, eP0_ap, ePs_ap, eSl_ap, iW_ap, iR1_ap, iR2_ap, iZp_ap, gN_ap, gNilD_ap, gConsD_ap, gTupD_ap, cYes_ap, sNil_ap, sSeq_ap, sIf_ap, sRet_ap, sRetN_ap, sSet_ap, sSetO_ap, sExp_ap, sBrk_ap, sCont_ap, sApp_ap, ePop_ap, sPut_ap, eCall_ap, eCallO_ap, eLenO_ap, sDk0_ap, sDput_ap, eSrtDk_ap, eDget_ap, eDin_ap, eRevO_ap, eLenS_ap, eIxS_ap, iSq_ap, nSeq_ap, nRet_ap, sDraws_ap, sAug_ap, sPar_ap, unE, reE, keepF, dIs, dNot, dNeg, dIsT, isTy, tyOf, rets, retsO, List.getElem?_cons_zero, List.getElem?_cons_succ, List.set_cons_zero, List.set_cons_succ, List.length_cons, List.length_nil, List.length_map, List.length_set, Nat.reduceAdd, Nat.reduceSub, Nat.reduceLT, Nat.reduceLeDiff, dAdd_i, dAdd_l, dAdd_t, dSub_i, dMul_i, dDiv_i, dModI_i, dLt_i, dLe_i, dGt_i, dGe_i, dEq_i, dNe_i, dEq_b, dNe_b, if_true, if_false, decide_true, decide_false, Bool.false_eq_true, Bool.not_true, Bool.not_false, and_true, true_and, and_self, or_true, true_or, reduceIte, Int.reduceNeg, Int.reducePow, Int.reduceLT, Int.reduceLE, Int.reduceGT, Int.reduceAdd, Int.reduceMul, Int.reduceSub, Int.reduceToNat, Nat.reducePow, Nat.reduceMul, Nat.reduceEqDiff, Int.reduceBEq, or_self, and_false, false_and, false_or, or_false, Bool.and_true, Bool.true_and, Bool.and_false, Bool.false_and, Bool.and_self, List.length_append, dAbs_i, Int.cast_ofNat_Int, beq_self_eq_true, String.reduceBEq, zip_l, zip_t, walk_l, walk_t, items_l, items_t, dLen_l, dLen_t, dTuple_l, dTuple_t, dList_l, dList_t, dInt_i, dSl_l, dSl_t, dIsNot_b, dIx, i0, i1, cA_ap, ha, String.reduceBEq, beq_self_eq_true, Bool.not_true, Bool.not_false, h2, h10, j2, j10]
              cases ws.all fun x => isNum x 1 96
              · simp only [eC_ap, eV_ap, eB_ap, eU_ap, eAnd_ap, eOr_ap, tE_ap, tAnd_ap, tOr_ap, tNot_ap, eIf_ap, eCh_ap, eA0_ap, eAc_ap, eAs_ap, eTup_ap, eLs_ap, eOfL_ap, eIxO_ap, eP0_ap, ePs_ap, eSl_ap, iW_ap, iR1_ap, iR2_ap, iZp_ap, gN_ap, gNilD_ap, gConsD_ap, gTupD_ap, cYes_ap, sNil_ap, sSeq_ap, sIf_ap, sRet_ap, sRetN_ap, sSet_ap, sSetO_ap, sExp_ap, sBrk_ap, sCont_ap, sApp_ap, ePop_ap, sPut_ap, eCall_ap, eCallO_ap, eLenO_ap, sDk0_ap, sDput_ap, eSrtDk_ap, eDget_ap, eDin_ap, eRevO_ap, eLenS_ap, eIxS_ap, iSq_ap, nSeq_ap, nRet_ap, sDraws_ap, sAug_ap, sPar_ap, unE, reE, keepF, dIs, dNot, dNeg, dIsT, isTy, tyOf, rets, retsO, List.getElem?_cons_zero, List.getElem?_cons_succ, List.set_cons_zero, List.set_cons_succ, List.length_cons, List.length_nil, List.length_map, List.length_set, Nat.reduceAdd, Nat.reduceSub, Nat.reduceLT, Nat.reduceLeDiff, dAdd_i, dAdd_l, dAdd_t, dSub_i, dMul_i, dDiv_i, dModI_i, dLt_i, dLe_i, dGt_i, dGe_i, dEq_i, dNe_i, dEq_b, dNe_b, if_true, if_false, decide_true, decide_false, Bool.false_eq_true, Bool.not_true, Bool.not_false, and_true, true_and, and_self, or_true, true_or, reduceIte, Int.reduceNeg, Int.reducePow, Int.reduceLT, Int.reduceLE, Int.reduceGT, Int.reduceAdd, Int.reduceMul, Int.reduceSub, Int.reduceToNat, Nat.reducePow, Nat.reduceMul, Nat.reduceEqDiff, Int.reduceBEq, or_self, and_false, false_and, false_or, or_false, Bool.and_true, Bool.true_and, Bool.and_false, Bool.false_and, Bool.and_self, List.length_append, dAbs_i, Int.cast_ofNat_Int, beq_self_eq_true, String.reduceBEq, zip_l, zip_t, walk_l, walk_t, items_l, items_t, dLen_l, dLen_t, dTuple_l, dTuple_t, dList_l, dList_t, dInt_i, dSl_l, dSl_t, dIsNot_b]
              · simp only [eC_ap, eV_ap, eB_ap, eU_ap, eAnd_ap, eOr_ap, tE_ap, tAnd_ap, tOr_ap, tNot_ap, eIf_ap, eCh_ap, eA0_ap, eAc_ap, eAs_ap, eTup_ap, eLs_ap, eOfL_ap, eIxO_ap, eP0_ap, ePs_ap, eSl_ap, iW_ap, iR1_ap, iR2_ap, iZp_ap, gN_ap, gNilD_ap, gConsD_ap, gTupD_ap, cYes_ap, sNil_ap, sSeq_ap, sIf_ap, sRet_ap, sRetN_ap, sSet_ap, sSetO_ap, sExp_ap, sBrk_ap, sCont_ap, sApp_ap, ePop_ap, sPut_ap, eCall_ap, eCallO_ap, eLenO_ap, sDk0_ap, sDput_ap, eSrtDk_ap, eDget_ap, eDin_ap, eRevO_ap, eLenS_ap, eIxS_ap, iSq_ap, nSeq_ap, nRet_ap, sDraws_ap, sAug_ap, sPar_ap, unE, reE, keepF, dIs, dNot, dNeg, dIsT, isTy, tyOf, rets, retsO, List.getElem?_cons_zero, List.getElem?_cons_succ, List.set_cons_zero, List.set_cons_succ, List.length_cons, List.length_nil, List.length_map, List.length_set, Nat.reduceAdd, Nat.reduceSub, Nat.reduceLT, Nat.reduceLeDiff, dAdd_i, dAdd_l, dAdd_t, dSub_i, dMul_i, dDiv_i, dModI_i, dLt_i, dLe_i, dGt_i, dGe_i, dEq_i, dNe_i, dEq_b, dNe_b, if_true, if_false, decide_true, decide_false, Bool.false_eq_true, Bool.not_true, Bool.not_false, and_true, true_and, and_self, or_true, true_or, reduceIte, Int.reduceNeg, Int.reducePow, Int.reduceLT, Int.reduceLE, Int.reduceGT, Int.reduceAdd, Int.reduceMul, Int.reduceSub, Int.reduceToNat, Nat.reducePow, Nat.reduceMul, Nat.reduceEqDiff, Int.reduceBEq, or_self, and_false, false_and, false_or, or_false, Bool.and_true, Bool.true_and, Bool.and_false, Bool.false_and, Bool.and_self, List.length_append, dAbs_i, Int.cast_ofNat_Int, beq_self_eq_true, String.reduceBEq, zip_l, zip_t, walk_l, walk_t, items_l, items_t, dLen_l, dLen_t, dTuple_l, dTuple_t, dList_l, dList_t, dInt_i, dSl_l, dSl_t, dIsNot_b, dIx, i1, hy]
            · have j2 : (2 : Int) ≤ (ws.length : Int) := by omega
              have j10 : ¬ (ws.length : Int) ≤ 10 := by omega
              simp only [eC_ap, eV_ap, eB_ap, eU_ap, eAnd_ap, eOr_ap, tE_ap, tAnd_ap, tOr_ap, tNot_ap, eIf_ap, eCh_ap, eA0_ap, eAc_ap, eAs_ap, eTup_ap, eLs_ap, eOfL_ap, eIxO_ap, eP0_ap, ePs_ap, eSl_ap, iW_ap, iR1_ap, iR2_ap, iZp_ap, gN_ap, gNilD_ap, gConsD_ap, gTupD_ap, cYes_ap, sNil_ap, sSeq_ap, sIf_ap, sRet_ap, sRetN_ap, sSet_ap, sSetO_ap, sExp_ap, sBrk_ap, sCont_ap, sApp_ap, ePop_ap, sPut_ap, eCall_ap, eCallO_ap, eLenO_ap, sDk0_ap, sDput_ap, eSrtDk_ap, eDget_ap, eDin_ap, eRevO_ap, eLenS_ap, eIxS_ap, iSq_ap, nSeq_ap, nRet_ap, sDraws_ap, sAug_ap, sPar_ap, unE, reE, keepF, dIs, dNot, dNeg, dIsT, isTy, tyOf, rets, retsO, List.getElem?_cons_zero, List.getElem?_cons_succ, List.set_cons_zero, List.set_cons_succ, List.length_cons, List.length_nil, List.length_map, List.length_set, Nat.reduceAdd, Nat.reduceSub, Nat.reduceLT, Nat.reduceLeDiff, dAdd_i, dAdd_l, dAdd_t, dSub_i, dMul_i, dDiv_i, dModI_i, dLt_i, dLe_i, dGt_i, dGe_i, dEq_i, dNe_i, dEq_b, dNe_b, if_true, if_false, decide_true, decide_false, Bool.false_eq_true, Bool.not_true, Bool.not_false, and_true, true_and, and_self, or_true, true_or, reduceIte, Int.reduceNeg, Int.reducePow, Int.reduceLT, Int.reduceLE, Int.reduceGT, Int.reduceAdd, Int.reduceMul, Int.reduceSub, Int.reduceToNat, Nat.reducePow, Nat.reduceMul, Nat.reduceEqDiff, Int.reduceBEq, or_self, and_false, false_and, false_or, or_false, Bool.and_true, Bool.true_and, Bool.and_false, Bool.false_and, Bool.and_self, List.length_append, dAbs_i, Int.cast_ofNat_Int, beq_self_eq_true, String.reduceBEq, zip_l, zip_t, walk_l, walk_t, items_l, items_t, dLen_l, dLen_t, dTuple_l, dTuple_t, dList_l, dList_t, dInt_i, dSl_l, dSl_t, dIsNot_b, dIx, i0, i1, String.reduceBEq, beq_self_eq_true, Bool.not_true, Bool.not_false, h2, h10, j2, j10]
          · have j2 : ¬ (2 : Int) ≤ (ws.length : Int) := by omega
            simp only [eC_ap, eV_ap, eB_ap, eU_ap, eAnd_ap, eOr_ap, tE_ap, tAnd_ap, tOr_ap, tNot_ap, eIf_ap, eCh_ap, eA0_ap, eAc_ap, eAs_ap, eTup_ap, eLs_ap, eOfL_ap, eIxO_ap, eP0_ap, ePs_ap, eSl_ap, iW_ap, iR1_ap, iR2_ap, iZp_ap, gN_ap, gNilD_ap, gConsD_ap, gTupD_ap, cYes_ap, sNil_ap, sSeq_ap, sIf_ap, sRet_ap, sRetN_ap, sSet_ap, sSetO_ap, sExp_ap, sBrk_ap, sCont_ap, sApp_ap, ePop_ap, sPut_ap, eCall_ap, eCallO_ap, eLenO_ap, sDk0_ap, sDput_ap, eSrtDk_ap, eDget_ap, eDin_ap, eRevO_ap, eLenS_ap, eIxS_ap, iSq_ap, nSeq_ap, nRet_ap, sDraws_ap, sAug_ap, sPar_ap, unE, reE, keepF, dIs, dNot, dNeg, dIsT, isTy, tyOf, rets, retsO, List.getElem?_cons_zero, List.getElem?_cons_succ, List.set_cons_zero, List.set_cons_succ, List.length_cons, List.length_nil, List.length_map, List.length_set, Nat.reduceAdd, Nat.reduceSub, Nat.reduceLT, Nat.reduceLeDiff, dAdd_i, dAdd_l, dAdd_t, dSub_i, dMul_i, dDiv_i, dModI_i, dLt_i, dLe_i, dGt_i, dGe_i, dEq_i, dNe_i, dEq_b, dNe_b, if_true, if_false, decide_true, decide_false, Bool.false_eq_true, Bool.not_true, Bool.not_false, and_true, true_and, and_self, or_true, true_or, reduceIte, Int.reduceNeg, Int.reducePow, Int.reduceLT, Int.reduceLE, Int.reduceGT, Int.reduceAdd, Int.reduceMul, Int.reduceSub, Int.reduceToNat, Nat.reducePow, Nat.reduceMul, Nat.reduceEqDiff, Int.reduceBEq, or_self, and_false, false_and, false_or, or_false, Bool.and_true, Bool.true_and, Bool.and_false, Bool.false_and, Bool.and_self, List.length_append, dAbs_i, Int.cast_ofNat_Int, beq_self_eq_true, String.reduceBEq, zip_l, zip_t, walk_l, walk_t, items_l, items_t, dLen_l, dLen_t, dTuple_l, dTuple_t, dList_l, dList_t, dInt_i, dSl_l, dSl_t, dIsNot_b, dIx, i0, i1, String.reduceBEq, beq_self_eq_true, Bool.not_true, Bool.not_false, h2, j2]
        case dict => cases ok
        all_goals rfl
    case dict => cases ok
    all_goals rfl
  · cases hm
end K92

namespace K92
open PySem PySem.Spec PyProof.Rows L2 GxR DL
theorem sch0 {ws : List Int} {b : Int} : dIx (sch ws b) (.int 0) = some (tupI ws) := (Eq.refl _).trans (Eq.refl _)
theorem sch1 {ws : List Int} {b : Int} : dIx (sch ws b) (.int 1) = some (.int b) := (Eq.refl _).trans (Eq.refl _)
theorem len_tup {ws : List Int} : dLen [tupI ws] = some (.int (ws.length : Int)) := by
  unfold tupI dLen
  simp only [List.length_map]
theorem ix_tup {ws : List Int} {p : Nat} (h : p < ws.length) : dIx (tupI ws) (.int (p : Int)) = some (.int ws[p]) := asI_get h
theorem dig_mem {ns : List Int} (h : dig ns = true) {x : Int} (hx : x ∈ ns) : 0 ≤ x ∧ x ≤ 9 := by
  have := List.all_eq_true.mp h x hx
  simp only [Bool.and_eq_true, decide_eq_true_eq] at this
  exact this
theorem rng_step (k n : Nat) : rng (k : Int) (n : Int) = if k < n then PyData.int (k : Int) :: rng ((k + 1 : Nat) : Int) (n : Int) else [] := by
  unfold rng
  split
  · rename_i h
    have e : ((n : Int) - (k : Int)).toNat = ((n : Int) - ((k + 1 : Nat) : Int)).toNat + 1 := by omega
    rw [e, List.range_succ_eq_map, List.map_cons, List.map_map]
    congr 1
    refine List.map_congr_left fun i _ => ?_
    simp only [Function.comp]
    congr 1
    omega
  · rename_i h
    have e : ((n : Int) - (k : Int)).toNat = 0 := by omega
    rw [e]
    rfl
theorem sem_bar : ∀ ds d, ds.length = 2 → mf_is_bar_number ds = some d → sm_is_bar_number (env0 N_is_bar_number ds) (rets d) := by
  intro ds d hl hm
  obtain ⟨s, v, rfl⟩ := len2 hl
  clear hl
  unfold mf_is_bar_number at hm
  simp only at hm
  split at hm
  · rename_i ws b hs
    rw [asSch_inv hs]
    split at hm
    · rename_i ok
      cases hm
      unfold sm_is_bar_number
      simp only [N_is_bar_number, env0, List.map_cons, List.map_nil, List.length_cons, List.length_nil, Nat.reduceAdd, Nat.reduceSub, List.replicate_succ, List.replicate_zero, List.cons_append, List.nil_append]
      cases v
      case tuple xs =>
        have ha := all_num (a := 0) (b := 9) (vs := [2]) (g := gN 2) (e := eCall mf_is_number (eAc (eV 2) (eAc (eC (.int 0)) (eAc (eC (.int 9)) eA0)))) (env := [.fz (sch ws b), .fz (.tuple xs), .un]) ok
          (fun d => ⟨[.fz (sch ws b), .fz (.tuple xs), .fz d], [.fz (sch ws b), .fz (.tuple xs), .fz d], rfl, fun hd => by simp only [eC_ap, eV_ap, eB_ap, eU_ap, eAnd_ap, eOr_ap, tE_ap, tAnd_ap, tOr_ap, tNot_ap, eIf_ap, eCh_ap, eA0_ap, eAc_ap, eAs_ap, eTup_ap, eLs_ap, eOfL_ap, eIxO_ap, eP0_ap, ePs_ap, eSl_ap, iW_ap, iR1_ap, iR2_ap, iZp_ap, gN_ap, gNilD_ap, gConsD_ap, gTupD_ap, cYes_ap, sNil_ap, sSeq_ap, sIf_ap, sRet_ap, sRetN_ap, sSet_ap, sSetO_ap, sExp_ap, sBrk_ap, sCont_ap, sApp_ap, ePop_ap, sPut_ap, eCall_ap, eCallO_ap, eLenO_ap, sDk0_ap, sDput_ap, eSrtDk_ap, eDget_ap, eDin_ap, eRevO_ap, eLenS_ap, eIxS_ap, iSq_ap, nSeq_ap, nRet_ap, sDraws_ap, sAug_ap, sPar_ap, unE, reE, keepF, dIs, dNot, dNeg, dIsT, isTy, tyOf, rets, retsO, List.getElem?_cons_zero, List.getElem?_cons_succ, List.set_cons_zero, List.set_cons_succ, List.length_cons, List.length_nil, List.length_map, List.length_set, Nat.reduceAdd, Nat.reduceSub, Nat.reduceLT, Nat.reduceLeDiff, dAdd_i, dAdd_l, dAdd_t, dSub_i, dMul_i, dDiv_i, dModI_i, dLt_i, dLe_i, dGt_i, dGe_i, dEq_i, dNe_i, dEq_b, dNe_b, if_true, if_false, decide_true, decide_false, Bool.false_eq_true, Bool.not_true, Bool.not_false, and_true, true_and, and_self, or_true, true_or, reduceIte, Int.reduceNeg, Int.reducePow, Int.reduceLT, Int.reduceLE, Int.reduceGT, Int.reduceAdd, Int.reduceMul, Int.reduceSub, Int.reduceToNat, Nat.reducePow, Nat.reduceMul, Nat.reduceEqDiff, Int.reduceBEq, or_self, and_false, false_and, false_or, or_false, Bool.and_true, Bool.true_and, Bool.and_false, Bool.false_and, Bool.and_self, List.length_append, dAbs_i, Int.cast_ofNat_Int, beq_self_eq_true, String.reduceBEq, zip_l, zip_t, walk_l, walk_t, items_l, items_t, dLen_l, dLen_t, dTuple_l, dTuple_t, dList_l, dList_t, dInt_i, dSl_l, dSl_t, dIsNot_b, number_eq hd], rfl⟩)
        have ex : isBar ws.length (.tuple xs) = (decide (xs.length = ws.length) && xs.all (fun x => isNum x 0 9)) := rfl
        have i0 := sch0 (ws := ws) (b := b)
        rw [ex]
        by_cases h : xs.length = ws.length
        · simp only [eC_ap, eV_ap, eB_ap, eU_ap, eAnd_ap, eOr_ap, tE_ap, tAnd_ap, tOr_ap, tNot_ap, eIf_ap, eCh_ap, eA0_ap, eAc_ap, eAs_ap, eTup_ap, eLs_ap, eOfL_ap, eIxO_ap, eP0_ap, ePs_ap, eSl_ap, iW_ap, iR1_ap, iR2_ap, iZp_ap, gN_ap, gNilD_ap, gConsD_ap, gTupD_ap, cYes_ap, sNil_ap, sSeq_ap, sIf_ap, sRet_ap, sRetN_ap, sSet_ap, sSetO_ap, sExp_ap, sBrk_ap, sCont_ap, sApp_ap, ePop_ap, sPut_ap, eCall_ap, eCallO_ap, eLenO_ap, sDk0_ap, sDput_ap, eSrtDk_ap, eDget_ap, eDin_ap, eRevO_ap, eLenS_ap, eIxS_ap, iSq_ap, nSeq_ap, nRet_ap, sDraws_ap, sAug_ap, sPar_ap, unE, reE, keepF, dIs, dNot, dNeg, dIsT, isTy, tyOf, rets, retsO, List.getElem?_cons_zero, List.getElem?_cons_succ, List.set_cons_zero, List.set_cons_succ, List.length_cons, List.length_nil, List.length_map, List.length_set, Nat.reduceAdd, Nat.reduceSub, Nat.reduceLT, Nat.reduceLeDiff, dAdd_i, dAdd_l, dAdd_t, dSub_i, dMul_i, dDiv_i, dModI_i, dLt_i, dLe_i, dGt_i, dGe_i, dEq_i, dNe_i, dEq_b, dNe_b, if_true, if_false, decide_true, decide_false, Bool.false_eq_true, Bool.not_true, Bool.not_false, and_true, true_and, and_self, or_true, true_or, reduceIte, Int.reduceNeg, Int.reducePow, Int.reduceLT, Int.reduceLE, Int.reduceGT, Int.reduceAdd, Int.reduceMul, Int.reduceSub, Int.reduceToNat, Nat.reducePow, Nat.reduceMul, Nat.reduceEqDiff, Int.reduceBEq, or_self, and_false, false_and, false_or, or_false, Bool.and_true, Bool.true_and, Bool.and_false, Bool.false_and, Bool.and_self, List.length_append, dAbs_i, Int.cast_ofNat_Int, beq_self_eq_true, String.reduceBEq, zip_l, zip_t, walk_l, walk_t, items_l, items_t, dLen_l, dLen_t, dTuple_l, dTuple_t, dList_l, dList_t, dInt_i, dSl_l, dSl_t, dIsNot_b, sch0, len_tup, h, cA_ap, ha]
        · have h2 : ((xs.length : Int) == (ws.length : Int)) = false := by rw [beq_eq_false_iff_ne]; omega
          simp only [eC_ap, eV_ap, eB_ap, eU_ap, eAnd_ap, eOr_ap, tE_ap, tAnd_ap, tOr_ap, tNot_ap, eIf_ap, eCh_ap, eA0_ap, eAc_ap, eAs_ap, eTup_ap, eLs_ap, eOfL_ap, eIxO_ap, eP0_ap, ePs_ap, eSl_ap, iW_ap, iR1_ap, iR2_ap, iZp_ap, gN_ap, gNilD_ap, gConsD_ap, gTupD_ap, cYes_ap, sNil_ap, sSeq_ap, sIf_ap, sRet_ap, sRetN_ap, sSet_ap, sSetO_ap, sExp_ap, sBrk_ap, sCont_ap, sApp_ap, ePop_ap, sPut_ap, eCall_ap, eCallO_ap, eLenO_ap, sDk0_ap, sDput_ap, eSrtDk_ap, eDget_ap, eDin_ap, eRevO_ap, eLenS_ap, eIxS_ap, iSq_ap, nSeq_ap, nRet_ap, sDraws_ap, sAug_ap, sPar_ap, unE, reE, keepF, dIs, dNot, dNeg, dIsT, isTy, tyOf, rets, retsO, List.getElem?_cons_zero, List.getElem?_cons_succ, List.set_cons_zero, List.set_cons_succ, List.length_cons, List.length_nil, List.length_map, List.length_set, Nat.reduceAdd, Nat.reduceSub, Nat.reduceLT, Nat.reduceLeDiff, dAdd_i, dAdd_l, dAdd_t, dSub_i, dMul_i, dDiv_i, dModI_i, dLt_i, dLe_i, dGt_i, dGe_i, dEq_i, dNe_i, dEq_b, dNe_b, if_true, if_false, decide_true, decide_false, Bool.false_eq_true, Bool.not_true, Bool.not_false, and_true, true_and, and_self, or_true, true_or, reduceIte, Int.reduceNeg, Int.reducePow, Int.reduceLT, Int.reduceLE, Int.reduceGT, Int.reduceAdd, Int.reduceMul, Int.reduceSub, Int.reduceToNat, Nat.reducePow, Nat.reduceMul, Nat.reduceEqDiff, Int.reduceBEq, or_self, and_false, false_and, false_or, or_false, Bool.and_true, Bool.true_and, Bool.and_false, Bool.false_and, Bool.and_self, List.length_append, dAbs_i, Int.cast_ofNat_Int, beq_self_eq_true, String.reduceBEq, zip_l, zip_t, walk_l, walk_t, items_l, items_t, dLen_l, dLen_t, dTuple_l, dTuple_t, dList_l, dList_t, dInt_i, dSl_l, dSl_t, dIsNot_b, sch0, len_tup, h, h2]
      case dict => cases ok
      all_goals rfl
    · cases hm
  · cases hm
theorem right_inv {s v d : D} (h : mf_right [s, v] = some d) : ∃ ws b ns, s = sch ws b ∧ v = tupI ns ∧ 0 < b ∧ ns.length = ws.length ∧ ws.length ≤ 10 ∧ dig ns = true ∧ d = .bool (R ws b ns) := by
  unfold mf_right at h
  cases hs : asSch s with
  | none => simp only [hs] at h; cases h
  | some wb =>
    obtain ⟨ws, b⟩ := wb
    cases hn : asTup v with
    | none => simp only [hs, hn] at h; cases h
    | some ns =>
      simp only [hs, hn] at h
      by_cases hc : 0 < b ∧ ns.length = ws.length ∧ ws.length ≤ 10 ∧ dig ns = true
      · rw [if_pos hc] at h
        exact ⟨ws, b, ns, asSch_inv hs, asTup_inv hn, hc.1, hc.2.1, hc.2.2.1, hc.2.2.2, (Option.some.inj h).symm⟩
      · rw [if_neg hc] at h
        cases h
theorem sum_loop (A B : SV) : ∀ zs : List (Int × Int), (∀ p ∈ zs, 0 ≤ p.1 ∧ p.1 ≤ 9) → cLoop [2, 3] (gTupD 2 (gConsD (gN 2) (gConsD (gN 3) gNilD))) cYes (eB dMul (eV 2) (eV 3)) (zs.map fun p => PyData.tuple [.int p.1, .int p.2]) [A, B, .un, .un] = some ((zs.map fun p => p.1 * p.2).map .int, [A, B, .un, .un])
  | [], _ => rfl
  | p :: zs, h => by
    have ih := sum_loop A B zs fun q hq => h q (List.mem_cons_of_mem _ hq)
    have hp := h p List.mem_cons_self
    have h1 : -(2 ^ 64 : Int) < p.1 := by omega
    have h2 : p.1 < (2 ^ 64 : Int) := by omega
    rw [List.map_cons, cLoop]
    simp only [Int.reducePow, Int.reduceNeg] at h1 h2
    simp only [eC_ap, eV_ap, eB_ap, eU_ap, eAnd_ap, eOr_ap, tE_ap, tAnd_ap, tOr_ap, tNot_ap, eIf_ap, eCh_ap, eA0_ap, eAc_ap, eAs_ap, eTup_ap, eLs_ap, eOfL_ap, eIxO_ap, eP0_ap, ePs_ap, eSl_ap, iW_ap, iR1_ap, iR2_ap, iZp_ap, gN_ap, gNilD_ap, gConsD_ap, gTupD_ap, cYes_ap, sNil_ap, sSeq_ap, sIf_ap, sRet_ap, sRetN_ap, sSet_ap, sSetO_ap, sExp_ap, sBrk_ap, sCont_ap, sApp_ap, ePop_ap, sPut_ap, eCall_ap, eCallO_ap, eLenO_ap, sDk0_ap, sDput_ap, eSrtDk_ap, eDget_ap, eDin_ap, eRevO_ap, eLenS_ap, eIxS_ap, iSq_ap, nSeq_ap, nRet_ap, sDraws_ap, sAug_ap, sPar_ap, unE, reE, keepF, dIs, dNot, dNeg, dIsT, isTy, tyOf, rets, retsO, List.getElem?_cons_zero, List.getElem?_cons_succ, List.set_cons_zero, List.set_cons_succ, List.length_cons, List.length_nil, List.length_map, List.length_set, Nat.reduceAdd, Nat.reduceSub, Nat.reduceLT, Nat.reduceLeDiff, dAdd_i, dAdd_l, dAdd_t, dSub_i, dMul_i, dDiv_i, dModI_i, dLt_i, dLe_i, dGt_i, dGe_i, dEq_i, dNe_i, dEq_b, dNe_b, if_true, if_false, decide_true, decide_false, Bool.false_eq_true, Bool.not_true, Bool.not_false, and_true, true_and, and_self, or_true, true_or, reduceIte, Int.reduceNeg, Int.reducePow, Int.reduceLT, Int.reduceLE, Int.reduceGT, Int.reduceAdd, Int.reduceMul, Int.reduceSub, Int.reduceToNat, Nat.reducePow, Nat.reduceMul, Nat.reduceEqDiff, Int.reduceBEq, or_self, and_false, false_and, false_or, or_false, Bool.and_true, Bool.true_and, Bool.and_false, Bool.false_and, Bool.and_self, List.length_append, dAbs_i, Int.cast_ofNat_Int, beq_self_eq_true, String.reduceBEq, zip_l, zip_t, walk_l, walk_t, items_l, items_t, dLen_l, dLen_t, dTuple_l, dTuple_t, dList_l, dList_t, dInt_i, dSl_l, dSl_t, dIsNot_b, h1, h2, ih, List.map_cons]
theorem zip_ints : ∀ ns ws : List Int, ((ns.map PyData.int).zip (ws.map PyData.int)).map (fun p => (PyData.tuple [p.1, p.2] : D)) = (ns.zip ws).map fun p => PyData.tuple [.int p.1, .int p.2]
  | [], _ => rfl
  | n :: ns, [] => rfl
  | n :: ns, w :: ws => by rw [List.map_cons, List.map_cons, List.zip_cons_cons, List.map_cons, zip_ints ns ws]; rfl
theorem sem_is_right : ∀ ds d, ds.length = 2 → mf_is_right ds = some d → sm_is_right (env0 N_is_right ds) (rets d) := by
  intro ds d hl hm
  obtain ⟨s, v, rfl⟩ := len2 hl
  clear hl
  obtain ⟨ws, b, ns, rfl, rfl, hb, hl, h10, hd, rfl⟩ := right_inv hm
  unfold sm_is_right
  simp only [N_is_right, env0, List.map_cons, List.map_nil, List.length_cons, List.length_nil, Nat.reduceAdd, Nat.reduceSub, List.replicate_succ, List.replicate_zero, List.cons_append, List.nil_append]
  have hl := sum_loop (.fz (sch ws b)) (.fz (tupI ns)) (ns.zip ws) fun p hp => dig_mem hd (List.of_mem_zip hp).1
  have hz : zipD (tupI ns) (tupI ws) = some ((ns.zip ws).map fun p => PyData.tuple [.int p.1, .int p.2]) := by
    rw [← zip_ints]; rfl
  simp only [eC_ap, eV_ap, eB_ap, eU_ap, eAnd_ap, eOr_ap, tE_ap, tAnd_ap, tOr_ap, tNot_ap, eIf_ap, eCh_ap, eA0_ap, eAc_ap, eAs_ap, eTup_ap, eLs_ap, eOfL_ap, eIxO_ap, eP0_ap, ePs_ap, eSl_ap, iW_ap, iR1_ap, iR2_ap, iZp_ap, gN_ap, gNilD_ap, gConsD_ap, gTupD_ap, cYes_ap, sNil_ap, sSeq_ap, sIf_ap, sRet_ap, sRetN_ap, sSet_ap, sSetO_ap, sExp_ap, sBrk_ap, sCont_ap, sApp_ap, ePop_ap, sPut_ap, eCall_ap, eCallO_ap, eLenO_ap, sDk0_ap, sDput_ap, eSrtDk_ap, eDget_ap, eDin_ap, eRevO_ap, eLenS_ap, eIxS_ap, iSq_ap, nSeq_ap, nRet_ap, sDraws_ap, sAug_ap, sPar_ap, unE, reE, keepF, dIs, dNot, dNeg, dIsT, isTy, tyOf, rets, retsO, List.getElem?_cons_zero, List.getElem?_cons_succ, List.set_cons_zero, List.set_cons_succ, List.length_cons, List.length_nil, List.length_map, List.length_set, Nat.reduceAdd, Nat.reduceSub, Nat.reduceLT, Nat.reduceLeDiff, dAdd_i, dAdd_l, dAdd_t, dSub_i, dMul_i, dDiv_i, dModI_i, dLt_i, dLe_i, dGt_i, dGe_i, dEq_i, dNe_i, dEq_b, dNe_b, if_true, if_false, decide_true, decide_false, Bool.false_eq_true, Bool.not_true, Bool.not_false, and_true, true_and, and_self, or_true, true_or, reduceIte, Int.reduceNeg, Int.reducePow, Int.reduceLT, Int.reduceLE, Int.reduceGT, Int.reduceAdd, Int.reduceMul, Int.reduceSub, Int.reduceToNat, Nat.reducePow, Nat.reduceMul, Nat.reduceEqDiff, Int.reduceBEq, or_self, and_false, false_and, false_or, or_false, Bool.and_true, Bool.true_and, Bool.and_false, Bool.false_and, Bool.and_self, List.length_append, dAbs_i, Int.cast_ofNat_Int, beq_self_eq_true, String.reduceBEq, zip_l, zip_t, walk_l, walk_t, items_l, items_t, dLen_l, dLen_t, dTuple_l, dTuple_t, dList_l, dList_t, dInt_i, dSl_l, dSl_t, dIsNot_b, sch0, sch1, eSumG_ap, hz, hl, intsOf_map, hb]
  rfl
theorem dot_take (ns ws : List Int) (k : Nat) (h1 : k < ns.length) (h2 : k < ws.length) : dot (ns.take (k + 1)) (ws.take (k + 1)) = dot (ns.take k) (ws.take k) + ns[k] * ws[k] := by
  rw [List.take_succ_eq_append_getElem h1, List.take_succ_eq_append_getElem h2, dot_snoc _ _ _ _ (by rw [List.length_take, List.length_take]; omega)]
theorem small_10 {n : Nat} (h : n ≤ 10) : small62 (n : Int) = true := small_len (line_small (Nat.le_trans h (by decide)))
theorem sem_law_right : ∀ ds d, ds.length = 2 → mf__law_right ds = some d → sm__law_right (env0 N__law_right ds) (rets d) := by
  intro ds d hl hm
  obtain ⟨s, v, rfl⟩ := len2 hl
  clear hl
  unfold mf__law_right at hm
  have hinv := right_inv hm
  clear hm
  obtain ⟨ws, b, ns, e1, e2, hb, hl, h10, hd, e3⟩ := hinv
  subst e1 e2 e3
  have hz : ns.length ≤ 10 := by rw [hl]; exact h10
  have hs : small62 (ns.length : Int) = true := small_10 hz
  unfold sm__law_right
  simp only [N__law_right, env0, List.map_cons, List.map_nil, List.length_cons, List.length_nil, Nat.reduceAdd, Nat.reduceSub, List.replicate_succ, List.replicate_zero, List.cons_append, List.nil_append]
  simp only [eC_ap, eV_ap, eB_ap, eU_ap, eAnd_ap, eOr_ap, tE_ap, tAnd_ap, tOr_ap, tNot_ap, eIf_ap, eCh_ap, eA0_ap, eAc_ap, eAs_ap, eTup_ap, eLs_ap, eOfL_ap, eIxO_ap, eP0_ap, ePs_ap, eSl_ap, iW_ap, iR1_ap, iR2_ap, iZp_ap, gN_ap, gNilD_ap, gConsD_ap, gTupD_ap, cYes_ap, sNil_ap, sSeq_ap, sIf_ap, sRet_ap, sRetN_ap, sSet_ap, sSetO_ap, sExp_ap, sBrk_ap, sCont_ap, sApp_ap, ePop_ap, sPut_ap, eCall_ap, eCallO_ap, eLenO_ap, sDk0_ap, sDput_ap, eSrtDk_ap, eDget_ap, eDin_ap, eRevO_ap, eLenS_ap, eIxS_ap, iSq_ap, nSeq_ap, nRet_ap, sDraws_ap, sAug_ap, sPar_ap, unE, reE, keepF, dIs, dNot, dNeg, dIsT, isTy, tyOf, rets, retsO, List.getElem?_cons_zero, List.getElem?_cons_succ, List.set_cons_zero, List.set_cons_succ, List.length_cons, List.length_nil, List.length_map, List.length_set, Nat.reduceAdd, Nat.reduceSub, Nat.reduceLT, Nat.reduceLeDiff, dAdd_i, dAdd_l, dAdd_t, dSub_i, dMul_i, dDiv_i, dModI_i, dLt_i, dLe_i, dGt_i, dGe_i, dEq_i, dNe_i, dEq_b, dNe_b, if_true, if_false, decide_true, decide_false, Bool.false_eq_true, Bool.not_true, Bool.not_false, and_true, true_and, and_self, or_true, true_or, reduceIte, Int.reduceNeg, Int.reducePow, Int.reduceLT, Int.reduceLE, Int.reduceGT, Int.reduceAdd, Int.reduceMul, Int.reduceSub, Int.reduceToNat, Nat.reducePow, Nat.reduceMul, Nat.reduceEqDiff, Int.reduceBEq, or_self, and_false, false_and, false_or, or_false, Bool.and_true, Bool.true_and, Bool.and_false, Bool.false_and, Bool.and_self, List.length_append, dAbs_i, Int.cast_ofNat_Int, beq_self_eq_true, String.reduceBEq, zip_l, zip_t, walk_l, walk_t, items_l, items_t, dLen_l, dLen_t, dTuple_l, dTuple_t, dList_l, dList_t, dInt_i, dSl_l, dSl_t, dIsNot_b]
  rw [sFor_ap]
  simp only [eC_ap, eV_ap, eB_ap, eU_ap, eAnd_ap, eOr_ap, tE_ap, tAnd_ap, tOr_ap, tNot_ap, eIf_ap, eCh_ap, eA0_ap, eAc_ap, eAs_ap, eTup_ap, eLs_ap, eOfL_ap, eIxO_ap, eP0_ap, ePs_ap, eSl_ap, iW_ap, iR1_ap, iR2_ap, iZp_ap, gN_ap, gNilD_ap, gConsD_ap, gTupD_ap, cYes_ap, sNil_ap, sSeq_ap, sIf_ap, sRet_ap, sRetN_ap, sSet_ap, sSetO_ap, sExp_ap, sBrk_ap, sCont_ap, sApp_ap, ePop_ap, sPut_ap, eCall_ap, eCallO_ap, eLenO_ap, sDk0_ap, sDput_ap, eSrtDk_ap, eDget_ap, eDin_ap, eRevO_ap, eLenS_ap, eIxS_ap, iSq_ap, nSeq_ap, nRet_ap, sDraws_ap, sAug_ap, sPar_ap, unE, reE, keepF, dIs, dNot, dNeg, dIsT, isTy, tyOf, rets, retsO, List.getElem?_cons_zero, List.getElem?_cons_succ, List.set_cons_zero, List.set_cons_succ, List.length_cons, List.length_nil, List.length_map, List.length_set, Nat.reduceAdd, Nat.reduceSub, Nat.reduceLT, Nat.reduceLeDiff, dAdd_i, dAdd_l, dAdd_t, dSub_i, dMul_i, dDiv_i, dModI_i, dLt_i, dLe_i, dGt_i, dGe_i, dEq_i, dNe_i, dEq_b, dNe_b, if_true, if_false, decide_true, decide_false, Bool.false_eq_true, Bool.not_true, Bool.not_false, and_true, true_and, and_self, or_true, true_or, reduceIte, Int.reduceNeg, Int.reducePow, Int.reduceLT, Int.reduceLE, Int.reduceGT, Int.reduceAdd, Int.reduceMul, Int.reduceSub, Int.reduceToNat, Nat.reducePow, Nat.reduceMul, Nat.reduceEqDiff, Int.reduceBEq, or_self, and_false, false_and, false_or, or_false, Bool.and_true, Bool.true_and, Bool.and_false, Bool.false_and, Bool.and_self, List.length_append, dAbs_i, Int.cast_ofNat_Int, beq_self_eq_true, String.reduceBEq, zip_l, zip_t, walk_l, walk_t, items_l, items_t, dLen_l, dLen_t, dTuple_l, dTuple_t, dList_l, dList_t, dInt_i, dSl_l, dSl_t, dIsNot_b, len_tup, hs]
  refine wFor_inv (fun r env => ∃ (k : Nat) (x3 : SV), k ≤ ns.length ∧ r = rng (k : Int) (ns.length : Int) ∧ env = [.fz (sch ws b), .fz (tupI ns), .fz (.int (dot (ns.take k) (ws.take k))), x3]) ?_ ?_ _ _ ⟨0, .un, Nat.zero_le _, rfl, rfl⟩
  · rintro d r env ⟨k, x3, hk, hr, rfl⟩ K hK
    rw [rng_step] at hr
    split at hr
    · rename_i hlt
      cases hr
      have hw : k < ws.length := by omega
      have hx := dig_mem hd (List.getElem_mem hlt)
      have h1 : (-18446744073709551616 : Int) < ns[k] := by omega
      have h2 : ns[k] < (18446744073709551616 : Int) := by omega
      refine ⟨_, rfl, ?_⟩
      simp only [eC_ap, eV_ap, eB_ap, eU_ap, eAnd_ap, eOr_ap, tE_ap, tAnd_ap, tOr_ap, tNot_ap, eIf_ap, eCh_ap, eA0_ap, eAc_ap, eAs_ap, eTup_ap, eLs_ap, eOfL_ap, eIxO_ap, eP0_ap, ePs_ap, eSl_ap, iW_ap, iR1_ap, iR2_ap, iZp_ap, gN_ap, gNilD_ap, gConsD_ap, gTupD_ap, cYes_ap, sNil_ap, sSeq_ap, sIf_ap, sRet_ap, sRetN_ap, sSet_ap, sSetO_ap, sExp_ap, sBrk_ap, sCont_ap, sApp_ap, ePop_ap, sPut_ap, eCall_ap, eCallO_ap, eLenO_ap, sDk0_ap, sDput_ap, eSrtDk_ap, eDget_ap, eDin_ap, eRevO_ap, eLenS_ap, eIxS_ap, iSq_ap, nSeq_ap, nRet_ap, sDraws_ap, sAug_ap, sPar_ap, unE, reE, keepF, dIs, dNot, dNeg, dIsT, isTy, tyOf, rets, retsO, List.getElem?_cons_zero, List.getElem?_cons_succ, List.set_cons_zero, List.set_cons_succ, List.length_cons, List.length_nil, List.length_map, List.length_set, Nat.reduceAdd, Nat.reduceSub, Nat.reduceLT, Nat.reduceLeDiff, dAdd_i, dAdd_l, dAdd_t, dSub_i, dMul_i, dDiv_i, dModI_i, dLt_i, dLe_i, dGt_i, dGe_i, dEq_i, dNe_i, dEq_b, dNe_b, if_true, if_false, decide_true, decide_false, Bool.false_eq_true, Bool.not_true, Bool.not_false, and_true, true_and, and_self, or_true, true_or, reduceIte, Int.reduceNeg, Int.reducePow, Int.reduceLT, Int.reduceLE, Int.reduceGT, Int.reduceAdd, Int.reduceMul, Int.reduceSub, Int.reduceToNat, Nat.reducePow, Nat.reduceMul, Nat.reduceEqDiff, Int.reduceBEq, or_self, and_false, false_and, false_or, or_false, Bool.and_true, Bool.true_and, Bool.and_false, Bool.false_and, Bool.and_self, List.length_append, dAbs_i, Int.cast_ofNat_Int, beq_self_eq_true, String.reduceBEq, zip_l, zip_t, walk_l, walk_t, items_l, items_t, dLen_l, dLen_t, dTuple_l, dTuple_t, dList_l, dList_t, dInt_i, dSl_l, dSl_t, dIsNot_b, sch0, ix_tup hlt, ix_tup hw, h1, h2]
      refine hK _ ⟨k + 1, .fz (.int (k : Int)), hlt, rfl, ?_⟩
      rw [dot_take ns ws k hlt hw]
    · cases hr
  · rintro env ⟨k, x3, hk, hr, rfl⟩
    rw [rng_step] at hr
    split at hr
    · cases hr
    · rename_i hlt
      have e : k = ns.length := by omega
      subst e
      have ew : ws.take ns.length = ws := by rw [hl]; exact List.take_length
      rw [List.take_length, ew]
      simp only [eC_ap, eV_ap, eB_ap, eU_ap, eAnd_ap, eOr_ap, tE_ap, tAnd_ap, tOr_ap, tNot_ap, eIf_ap, eCh_ap, eA0_ap, eAc_ap, eAs_ap, eTup_ap, eLs_ap, eOfL_ap, eIxO_ap, eP0_ap, ePs_ap, eSl_ap, iW_ap, iR1_ap, iR2_ap, iZp_ap, gN_ap, gNilD_ap, gConsD_ap, gTupD_ap, cYes_ap, sNil_ap, sSeq_ap, sIf_ap, sRet_ap, sRetN_ap, sSet_ap, sSetO_ap, sExp_ap, sBrk_ap, sCont_ap, sApp_ap, ePop_ap, sPut_ap, eCall_ap, eCallO_ap, eLenO_ap, sDk0_ap, sDput_ap, eSrtDk_ap, eDget_ap, eDin_ap, eRevO_ap, eLenS_ap, eIxS_ap, iSq_ap, nSeq_ap, nRet_ap, sDraws_ap, sAug_ap, sPar_ap, unE, reE, keepF, dIs, dNot, dNeg, dIsT, isTy, tyOf, rets, retsO, List.getElem?_cons_zero, List.getElem?_cons_succ, List.set_cons_zero, List.set_cons_succ, List.length_cons, List.length_nil, List.length_map, List.length_set, Nat.reduceAdd, Nat.reduceSub, Nat.reduceLT, Nat.reduceLeDiff, dAdd_i, dAdd_l, dAdd_t, dSub_i, dMul_i, dDiv_i, dModI_i, dLt_i, dLe_i, dGt_i, dGe_i, dEq_i, dNe_i, dEq_b, dNe_b, if_true, if_false, decide_true, decide_false, Bool.false_eq_true, Bool.not_true, Bool.not_false, and_true, true_and, and_self, or_true, true_or, reduceIte, Int.reduceNeg, Int.reducePow, Int.reduceLT, Int.reduceLE, Int.reduceGT, Int.reduceAdd, Int.reduceMul, Int.reduceSub, Int.reduceToNat, Nat.reducePow, Nat.reduceMul, Nat.reduceEqDiff, Int.reduceBEq, or_self, and_false, false_and, false_or, or_false, Bool.and_true, Bool.true_and, Bool.and_false, Bool.false_and, Bool.and_self, List.length_append, dAbs_i, Int.cast_ofNat_Int, beq_self_eq_true, String.reduceBEq, zip_l, zip_t, walk_l, walk_t, items_l, items_t, dLen_l, dLen_t, dTuple_l, dTuple_t, dList_l, dList_t, dInt_i, dSl_l, dSl_t, dIsNot_b, sch1, hb]
      rfl
theorem sem_wrong : ∀ ds d, ds.length = 2 → mf_shows_wrong ds = some d → sm_shows_wrong (env0 N_shows_wrong ds) (rets d) := by
  intro ds d hl hm
  obtain ⟨s, v, rfl⟩ := len2 hl
  clear hl
  unfold mf_shows_wrong at hm
  split at hm
  · rename_i s' p e
    cases e
    split at hm
    · rename_i ws b hs
      rw [asSch_inv hs]
      split at hm
      · rename_i hc
        obtain ⟨hb, hp⟩ := hc
        split at hm
        · rename_i w hw
          cases hm
          obtain ⟨q, rfl⟩ : ∃ q : Nat, p = (q : Int) := ⟨p.toNat, by omega⟩
          simp only [Int.toNat_natCast] at hw
          obtain ⟨hq, hw⟩ := List.getElem?_eq_some_iff.mp hw
          unfold sm_shows_wrong
          simp only [N_shows_wrong, env0, List.map_cons, List.map_nil, List.length_cons, List.length_nil, Nat.reduceAdd, Nat.reduceSub, List.replicate_succ, List.replicate_zero, List.cons_append, List.nil_append]
          have h1 : small62 1 = true := s62 (by decide) (by decide)
          have h10 : small62 10 = true := s62 (by decide) (by decide)
          have hr : rng 1 10 = steps.map PyData.int := rfl
          have ha := aLoop_eq (stop := false) (vs := [2]) (g := gN 2) (c := cYes) (e := eB dNe (eB dModI (eB dMul (eB dIx (eB dIx (eV 0) (eC (.int 0))) (eV 1)) (eV 2)) (eB dIx (eV 0) (eC (.int 1)))) (eC (.int 0))) (env := [.fz (sch ws b), .fz (.int (q : Int)), .un]) (fun d => match d with
            | .int k => !(w * k % b == 0)
            | _ => false) (steps.map PyData.int) fun d hd => by
              obtain ⟨k, hk, rfl⟩ := List.mem_map.mp hd
              have hk2 : 1 ≤ k ∧ k ≤ 9 := by
                have : ∀ k ∈ steps, 1 ≤ k ∧ k ≤ 9 := by decide
                exact this k hk
              have g1 : (-18446744073709551616 : Int) < k := by omega
              have g2 : k < (18446744073709551616 : Int) := by omega
              refine ⟨[.fz (sch ws b), .fz (.int (q : Int)), .fz (.int k)], _, [.fz (sch ws b), .fz (.int (q : Int)), .fz (.int k)], rfl, rfl, ?_, rfl⟩
              simp only [eC_ap, eV_ap, eB_ap, eU_ap, eAnd_ap, eOr_ap, tE_ap, tAnd_ap, tOr_ap, tNot_ap, eIf_ap, eCh_ap, eA0_ap, eAc_ap, eAs_ap, eTup_ap, eLs_ap, eOfL_ap, eIxO_ap, eP0_ap, ePs_ap, eSl_ap, iW_ap, iR1_ap, iR2_ap, iZp_ap, gN_ap, gNilD_ap, gConsD_ap, gTupD_ap, cYes_ap, sNil_ap, sSeq_ap, sIf_ap, sRet_ap, sRetN_ap, sSet_ap, sSetO_ap, sExp_ap, sBrk_ap, sCont_ap, sApp_ap, ePop_ap, sPut_ap, eCall_ap, eCallO_ap, eLenO_ap, sDk0_ap, sDput_ap, eSrtDk_ap, eDget_ap, eDin_ap, eRevO_ap, eLenS_ap, eIxS_ap, iSq_ap, nSeq_ap, nRet_ap, sDraws_ap, sAug_ap, sPar_ap, unE, reE, keepF, dIs, dNot, dNeg, dIsT, isTy, tyOf, rets, retsO, List.getElem?_cons_zero, List.getElem?_cons_succ, List.set_cons_zero, List.set_cons_succ, List.length_cons, List.length_nil, List.length_map, List.length_set, Nat.reduceAdd, Nat.reduceSub, Nat.reduceLT, Nat.reduceLeDiff, dAdd_i, dAdd_l, dAdd_t, dSub_i, dMul_i, dDiv_i, dModI_i, dLt_i, dLe_i, dGt_i, dGe_i, dEq_i, dNe_i, dEq_b, dNe_b, if_true, if_false, decide_true, decide_false, Bool.false_eq_true, Bool.not_true, Bool.not_false, and_true, true_and, and_self, or_true, true_or, reduceIte, Int.reduceNeg, Int.reducePow, Int.reduceLT, Int.reduceLE, Int.reduceGT, Int.reduceAdd, Int.reduceMul, Int.reduceSub, Int.reduceToNat, Nat.reducePow, Nat.reduceMul, Nat.reduceEqDiff, Int.reduceBEq, or_self, and_false, false_and, false_or, or_false, Bool.and_true, Bool.true_and, Bool.and_false, Bool.false_and, Bool.and_self, List.length_append, dAbs_i, Int.cast_ofNat_Int, beq_self_eq_true, String.reduceBEq, zip_l, zip_t, walk_l, walk_t, items_l, items_t, dLen_l, dLen_t, dTuple_l, dTuple_t, dList_l, dList_t, dInt_i, dSl_l, dSl_t, dIsNot_b, sch0, sch1, ix_tup hq, hw, g1, g2, hb]
          have el : List.all (steps.map PyData.int) (fun d => match d with
            | .int k => !(w * k % b == 0)
            | _ => false) = wrongB b w := by
              rw [List.all_map]
              rfl
          simp only [eC_ap, eV_ap, eB_ap, eU_ap, eAnd_ap, eOr_ap, tE_ap, tAnd_ap, tOr_ap, tNot_ap, eIf_ap, eCh_ap, eA0_ap, eAc_ap, eAs_ap, eTup_ap, eLs_ap, eOfL_ap, eIxO_ap, eP0_ap, ePs_ap, eSl_ap, iW_ap, iR1_ap, iR2_ap, iZp_ap, gN_ap, gNilD_ap, gConsD_ap, gTupD_ap, cYes_ap, sNil_ap, sSeq_ap, sIf_ap, sRet_ap, sRetN_ap, sSet_ap, sSetO_ap, sExp_ap, sBrk_ap, sCont_ap, sApp_ap, ePop_ap, sPut_ap, eCall_ap, eCallO_ap, eLenO_ap, sDk0_ap, sDput_ap, eSrtDk_ap, eDget_ap, eDin_ap, eRevO_ap, eLenS_ap, eIxS_ap, iSq_ap, nSeq_ap, nRet_ap, sDraws_ap, sAug_ap, sPar_ap, unE, reE, keepF, dIs, dNot, dNeg, dIsT, isTy, tyOf, rets, retsO, List.getElem?_cons_zero, List.getElem?_cons_succ, List.set_cons_zero, List.set_cons_succ, List.length_cons, List.length_nil, List.length_map, List.length_set, Nat.reduceAdd, Nat.reduceSub, Nat.reduceLT, Nat.reduceLeDiff, dAdd_i, dAdd_l, dAdd_t, dSub_i, dMul_i, dDiv_i, dModI_i, dLt_i, dLe_i, dGt_i, dGe_i, dEq_i, dNe_i, dEq_b, dNe_b, if_true, if_false, decide_true, decide_false, Bool.false_eq_true, Bool.not_true, Bool.not_false, and_true, true_and, and_self, or_true, true_or, reduceIte, Int.reduceNeg, Int.reducePow, Int.reduceLT, Int.reduceLE, Int.reduceGT, Int.reduceAdd, Int.reduceMul, Int.reduceSub, Int.reduceToNat, Nat.reducePow, Nat.reduceMul, Nat.reduceEqDiff, Int.reduceBEq, or_self, and_false, false_and, false_or, or_false, Bool.and_true, Bool.true_and, Bool.and_false, Bool.false_and, Bool.and_self, List.length_append, dAbs_i, Int.cast_ofNat_Int, beq_self_eq_true, String.reduceBEq, zip_l, zip_t, walk_l, walk_t, items_l, items_t, dLen_l, dLen_t, dTuple_l, dTuple_t, dList_l, dList_t, dInt_i, dSl_l, dSl_t, dIsNot_b, h1, h10, hr, cA_ap, ha]
          exact congrArg PyData.bool el
        · cases hm
      · cases hm
    · cases hm
  · cases hm
end K92

namespace K92
open PySem PySem.Spec PyProof.Rows L2 GxR DL
/-! ### rests_of -/
def kk (ks : List Int) : List (Key × D) := ks.map fun k => ((Sum.inl k : Key), PyData.bool true)
theorem kk_any (r : Int) : ∀ ks : List Int, ((kk ks).any fun kv => decide (kv.1 = Sum.inl r)) = ks.any fun k => decide (k = r)
  | [] => rfl
  | k :: ks => by
    have ih := kk_any r ks
    unfold kk at ih ⊢
    rw [List.map_cons, List.any_cons, List.any_cons, ih]
    congr 1
    by_cases h : k = r
    · subst h; simp
    · have h2 : ¬ (Sum.inl k : Key) = Sum.inl r := fun e => h (Sum.inl.inj e)
      simp [h]
theorem kk_map (r : Int) : ∀ ks : List Int, ((kk ks).map fun kv => if kv.1 = Sum.inl r then (kv.1, PyData.bool true) else kv) = kk ks
  | [] => rfl
  | k :: ks => by
    have ih := kk_map r ks
    unfold kk at ih ⊢
    rw [List.map_cons, List.map_cons, ih]
    congr 1
    split <;> rfl
theorem put_ins (ks : List Int) (r : Int) : putD (kk ks) (.inl r) (.bool true) = kk (insK ks r) := by
  unfold putD insK
  rw [kk_any]
  split
  · exact kk_map r ks
  · unfold kk
    rw [List.map_append]
    rfl
def Gd (b : Int) (ks : List Int) : Prop := ks.Nodup ∧ ∀ k ∈ ks, 0 ≤ k ∧ k < b
theorem gd_ins {b r : Int} {ks : List Int} (h : Gd b ks) (h1 : 0 ≤ r) (h2 : r < b) : Gd b (insK ks r) := by
  unfold insK
  split
  · exact h
  · rename_i hn
    refine ⟨?_, fun k hk => ?_⟩
    · rw [List.nodup_append]
      refine ⟨h.1, by simp, fun a ha c hc e => ?_⟩
      simp only [List.mem_singleton] at hc
      subst hc
      subst e
      exact hn (List.any_eq_true.mpr ⟨a, ha, decide_eq_true rfl⟩)
    · rcases List.mem_append.mp hk with hk | hk
      · exact h.2 k hk
      · simp only [List.mem_singleton] at hk
        subst hk
        exact ⟨h1, h2⟩
theorem gd_len {b : Int} {ks : List Int} (h : Gd b ks) : ks.length ≤ b.toNat := by
  have hs : ks ⊆ (List.range b.toNat).map fun (n : Nat) => (n : Int) := fun k hk => by
    obtain ⟨h1, h2⟩ := h.2 k hk
    exact List.mem_map.mpr ⟨k.toNat, List.mem_range.mpr (by omega), by omega⟩
  have := List.Nodup.length_le_of_subset h.1 hs
  simpa using this
theorem gd_line {b : Int} {ks : List Int} (h : Gd b ks) (hb : b ≤ 100) : ks.length < sizeLine := by
  have := gd_len h
  exact line_lt (by omega)
theorem gd_sort {b : Int} {ks : List Int} (h : Gd b ks) : Gd b (sortI ks) := by
  have p := sortI_perm ks
  exact ⟨p.nodup_iff.mpr h.1, fun k hk => h.2 k (p.mem_iff.mp hk)⟩
theorem kk_len (ks : List Int) : (kk ks).length = ks.length := List.length_map _
theorem kk_keys : ∀ ks : List Int, intKeys (kk ks) = some ks
  | [] => rfl
  | k :: ks => by
    have ih := kk_keys ks
    unfold kk at ih ⊢
    rw [List.map_cons, intKeys, ih]
theorem mod_rng {x b : Int} (hb : 0 < b) : 0 ≤ x % b ∧ x % b < b := ⟨Int.emod_nonneg _ (by omega), Int.emod_lt_of_pos _ hb⟩
def item1 (b w rest : Int) (ks : List Int) (item : Int) : List Int := insK ks ((rest + item * w) % b)
theorem gd_items {b w rest : Int} (hb : 0 < b) : ∀ (is ks : List Int), Gd b ks → Gd b (is.foldl (item1 b w rest) ks)
  | [], ks, h => h
  | i :: is, ks, h => gd_items hb is _ (gd_ins h (mod_rng hb).1 (mod_rng hb).2)
theorem gd_keys {b w : Int} (hb : 0 < b) : ∀ (fs ks : List Int), Gd b ks → Gd b (fs.foldl (fun ks rest => digits.foldl (item1 b w rest) ks) ks)
  | [], ks, h => h
  | f :: fs, ks, h => gd_keys hb fs _ (gd_items hb digits ks h)
theorem keyD_i {i : Int} : keyD (.int i) = some (.inl i) := (Eq.refl _).trans (Eq.refl _)
theorem key_true {b : Bool} : keyD (.bool b) = none := (Eq.refl _).trans (Eq.refl _)
theorem sem_item (ws : List Int) (b w rest : Int) (U x2 : SV) (Φ : Fl → Prop) (hb : 0 < b) (hb2 : b ≤ 100) : ∀ (is ks : List Int) (x6 : SV), (∀ i ∈ is, 0 ≤ i ∧ i ≤ 9) → Gd b ks → (∀ x6, Φ (.nx [.fz (sch ws b), U, x2, .fz (.int w), .dk (kk (is.foldl (item1 b w rest) ks)), .fz (.int rest), x6])) →
    wFor (gN 6) (sDput 4 (eB dModI (eB dAdd (eV 5) (eB dMul (eV 6) (eV 3))) (eB dIx (eV 0) (eC (.int 1)))) (eC (.bool true))) (is.map .int) [.fz (sch ws b), U, x2, .fz (.int w), .dk (kk ks), .fz (.int rest), x6] Φ
  | [], ks, x6, _, _, h => h x6
  | i :: is, ks, x6, hi, hg, h => by
    have h0 := hi i List.mem_cons_self
    have h1 : (-18446744073709551616 : Int) < i := by omega
    have h2 : i < (18446744073709551616 : Int) := by omega
    have hl := gd_line hg hb2
    rw [List.map_cons, wFor]
    simp only [eC_ap, eV_ap, eB_ap, eU_ap, eAnd_ap, eOr_ap, tE_ap, tAnd_ap, tOr_ap, tNot_ap, eIf_ap, eCh_ap, eA0_ap, eAc_ap, eAs_ap, eTup_ap, eLs_ap, eOfL_ap, eIxO_ap, eP0_ap, ePs_ap, eSl_ap, iW_ap, iR1_ap, iR2_ap, iZp_ap, gN_ap, gNilD_ap, gConsD_ap, gTupD_ap, cYes_ap, sNil_ap, sSeq_ap, sIf_ap, sRet_ap, sRetN_ap, sSet_ap, sSetO_ap, sExp_ap, sBrk_ap, sCont_ap, sApp_ap, ePop_ap, sPut_ap, eCall_ap, eCallO_ap, eLenO_ap, sDk0_ap, sDput_ap, eSrtDk_ap, eDget_ap, eDin_ap, eRevO_ap, eLenS_ap, eIxS_ap, iSq_ap, nSeq_ap, nRet_ap, sDraws_ap, sAug_ap, sPar_ap, unE, reE, keepF, dIs, dNot, dNeg, dIsT, isTy, tyOf, rets, retsO, List.getElem?_cons_zero, List.getElem?_cons_succ, List.set_cons_zero, List.set_cons_succ, List.length_cons, List.length_nil, List.length_map, List.length_set, Nat.reduceAdd, Nat.reduceSub, Nat.reduceLT, Nat.reduceLeDiff, dAdd_i, dAdd_l, dAdd_t, dSub_i, dMul_i, dDiv_i, dModI_i, dLt_i, dLe_i, dGt_i, dGe_i, dEq_i, dNe_i, dEq_b, dNe_b, if_true, if_false, decide_true, decide_false, Bool.false_eq_true, Bool.not_true, Bool.not_false, and_true, true_and, and_self, or_true, true_or, reduceIte, Int.reduceNeg, Int.reducePow, Int.reduceLT, Int.reduceLE, Int.reduceGT, Int.reduceAdd, Int.reduceMul, Int.reduceSub, Int.reduceToNat, Nat.reducePow, Nat.reduceMul, Nat.reduceEqDiff, Int.reduceBEq, or_self, and_false, false_and, false_or, or_false, Bool.and_true, Bool.true_and, Bool.and_false, Bool.false_and, Bool.and_self, List.length_append, dAbs_i, Int.cast_ofNat_Int, beq_self_eq_true, String.reduceBEq, zip_l, zip_t, walk_l, walk_t, items_l, items_t, dLen_l, dLen_t, dTuple_l, dTuple_t, dList_l, dList_t, dInt_i, dSl_l, dSl_t, dIsNot_b, sch1, h1, h2, hb, keyD_i, kk_len, hl, put_ins]
    exact sem_item ws b w rest U x2 Φ hb hb2 is _ _ (fun j hj => hi j (List.mem_cons_of_mem _ hj)) (gd_ins hg (mod_rng hb).1 (mod_rng hb).2) h
theorem digits_small : ∀ i ∈ digits, 0 ≤ i ∧ i ≤ 9 := by decide
theorem rng10 : rng 0 10 = digits.map PyData.int := (Eq.refl _).trans (Eq.refl _)
theorem sem_restl (ws : List Int) (b w : Int) (U x2 : SV) (Φ : Fl → Prop) (hb : 0 < b) (hb2 : b ≤ 100) : ∀ (fs ks : List Int) (x5 x6 : SV), Gd b ks → (∀ x5 x6, Φ (.nx [.fz (sch ws b), U, x2, .fz (.int w), .dk (kk (fs.foldl (fun ks rest => digits.foldl (item1 b w rest) ks) ks)), x5, x6])) →
    wFor (gN 5) (sFor (iR1 (eAc (eC (.int 10)) eA0)) (gN 6) (sDput 4 (eB dModI (eB dAdd (eV 5) (eB dMul (eV 6) (eV 3))) (eB dIx (eV 0) (eC (.int 1)))) (eC (.bool true)))) (fs.map .int) [.fz (sch ws b), U, x2, .fz (.int w), .dk (kk ks), x5, x6] Φ
  | [], ks, x5, x6, _, h => h x5 x6
  | f :: fs, ks, x5, x6, hg, h => by
    rw [List.map_cons, wFor]
    simp only [eC_ap, eV_ap, eB_ap, eU_ap, eAnd_ap, eOr_ap, tE_ap, tAnd_ap, tOr_ap, tNot_ap, eIf_ap, eCh_ap, eA0_ap, eAc_ap, eAs_ap, eTup_ap, eLs_ap, eOfL_ap, eIxO_ap, eP0_ap, ePs_ap, eSl_ap, iW_ap, iR1_ap, iR2_ap, iZp_ap, gN_ap, gNilD_ap, gConsD_ap, gTupD_ap, cYes_ap, sNil_ap, sSeq_ap, sIf_ap, sRet_ap, sRetN_ap, sSet_ap, sSetO_ap, sExp_ap, sBrk_ap, sCont_ap, sApp_ap, ePop_ap, sPut_ap, eCall_ap, eCallO_ap, eLenO_ap, sDk0_ap, sDput_ap, eSrtDk_ap, eDget_ap, eDin_ap, eRevO_ap, eLenS_ap, eIxS_ap, iSq_ap, nSeq_ap, nRet_ap, sDraws_ap, sAug_ap, sPar_ap, unE, reE, keepF, dIs, dNot, dNeg, dIsT, isTy, tyOf, rets, retsO, List.getElem?_cons_zero, List.getElem?_cons_succ, List.set_cons_zero, List.set_cons_succ, List.length_cons, List.length_nil, List.length_map, List.length_set, Nat.reduceAdd, Nat.reduceSub, Nat.reduceLT, Nat.reduceLeDiff, dAdd_i, dAdd_l, dAdd_t, dSub_i, dMul_i, dDiv_i, dModI_i, dLt_i, dLe_i, dGt_i, dGe_i, dEq_i, dNe_i, dEq_b, dNe_b, if_true, if_false, decide_true, decide_false, Bool.false_eq_true, Bool.not_true, Bool.not_false, and_true, true_and, and_self, or_true, true_or, reduceIte, Int.reduceNeg, Int.reducePow, Int.reduceLT, Int.reduceLE, Int.reduceGT, Int.reduceAdd, Int.reduceMul, Int.reduceSub, Int.reduceToNat, Nat.reducePow, Nat.reduceMul, Nat.reduceEqDiff, Int.reduceBEq, or_self, and_false, false_and, false_or, or_false, Bool.and_true, Bool.true_and, Bool.and_false, Bool.false_and, Bool.and_self, List.length_append, dAbs_i, Int.cast_ofNat_Int, beq_self_eq_true, String.reduceBEq, zip_l, zip_t, walk_l, walk_t, items_l, items_t, dLen_l, dLen_t, dTuple_l, dTuple_t, dList_l, dList_t, dInt_i, dSl_l, dSl_t, dIsNot_b]
    rw [range1_ap _ (s62 (by decide) (by decide)), rng10]
    refine sem_item ws b w f U x2 _ hb hb2 digits ks x6 digits_small hg fun y6 => ?_
    exact sem_restl ws b w U x2 Φ hb hb2 fs _ _ _ (gd_items hb digits ks hg) h
theorem rests_inv {s v d : D} (h : mf_rests_of [s, v] = some d) : ∃ ws b us, s = sch ws b ∧ v = tupI us ∧ 0 < b ∧ b ≤ 100 ∧ d = .list ((restsOf b us).map .int) := by
  unfold mf_rests_of at h
  cases hs : asSch s with
  | none => simp only [hs] at h; cases h
  | some wb =>
    obtain ⟨ws, b⟩ := wb
    cases hn : asTup v with
    | none => simp only [hs, hn] at h; cases h
    | some us =>
      simp only [hs, hn] at h
      by_cases hc : 0 < b ∧ b ≤ 100
      · rw [if_pos hc] at h
        exact ⟨ws, b, us, asSch_inv hs, asTup_inv hn, hc.1, hc.2, (Option.some.inj h).symm⟩
      · rw [if_neg hc] at h
        cases h
theorem walk_tup (us : List Int) : walkOf (tupI us) = some (us.map .int) := (Eq.refl _).trans (Eq.refl _)
theorem gd_nil (b : Int) : Gd b [] := ⟨List.nodup_nil, fun k hk => by cases hk⟩
theorem sem_rests : ∀ ds d, ds.length = 2 → mf_rests_of ds = some d → sm_rests_of (env0 N_rests_of ds) (rets d) := by
  intro ds d hl hm
  obtain ⟨s, v, rfl⟩ := len2 hl
  clear hl
  obtain ⟨ws, b, us, rfl, rfl, hb, hb2, rfl⟩ := rests_inv hm
  clear hm
  unfold sm_rests_of
  simp only [N_rests_of, env0, List.map_cons, List.map_nil, List.length_cons, List.length_nil, Nat.reduceAdd, Nat.reduceSub, List.replicate_succ, List.replicate_zero, List.cons_append, List.nil_append]
  have z1 : 1 ≤ sizeLine := line_small (by decide)
  simp only [eC_ap, eV_ap, eB_ap, eU_ap, eAnd_ap, eOr_ap, tE_ap, tAnd_ap, tOr_ap, tNot_ap, eIf_ap, eCh_ap, eA0_ap, eAc_ap, eAs_ap, eTup_ap, eLs_ap, eOfL_ap, eIxO_ap, eP0_ap, ePs_ap, eSl_ap, iW_ap, iR1_ap, iR2_ap, iZp_ap, gN_ap, gNilD_ap, gConsD_ap, gTupD_ap, cYes_ap, sNil_ap, sSeq_ap, sIf_ap, sRet_ap, sRetN_ap, sSet_ap, sSetO_ap, sExp_ap, sBrk_ap, sCont_ap, sApp_ap, ePop_ap, sPut_ap, eCall_ap, eCallO_ap, eLenO_ap, sDk0_ap, sDput_ap, eSrtDk_ap, eDget_ap, eDin_ap, eRevO_ap, eLenS_ap, eIxS_ap, iSq_ap, nSeq_ap, nRet_ap, sDraws_ap, sAug_ap, sPar_ap, unE, reE, keepF, dIs, dNot, dNeg, dIsT, isTy, tyOf, rets, retsO, List.getElem?_cons_zero, List.getElem?_cons_succ, List.set_cons_zero, List.set_cons_succ, List.length_cons, List.length_nil, List.length_map, List.length_set, Nat.reduceAdd, Nat.reduceSub, Nat.reduceLT, Nat.reduceLeDiff, dAdd_i, dAdd_l, dAdd_t, dSub_i, dMul_i, dDiv_i, dModI_i, dLt_i, dLe_i, dGt_i, dGe_i, dEq_i, dNe_i, dEq_b, dNe_b, if_true, if_false, decide_true, decide_false, Bool.false_eq_true, Bool.not_true, Bool.not_false, and_true, true_and, and_self, or_true, true_or, reduceIte, Int.reduceNeg, Int.reducePow, Int.reduceLT, Int.reduceLE, Int.reduceGT, Int.reduceAdd, Int.reduceMul, Int.reduceSub, Int.reduceToNat, Nat.reducePow, Nat.reduceMul, Nat.reduceEqDiff, Int.reduceBEq, or_self, and_false, false_and, false_or, or_false, Bool.and_true, Bool.true_and, Bool.and_false, Bool.false_and, Bool.and_self, List.length_append, dAbs_i, Int.cast_ofNat_Int, beq_self_eq_true, String.reduceBEq, zip_l, zip_t, walk_l, walk_t, items_l, items_t, dLen_l, dLen_t, dTuple_l, dTuple_t, dList_l, dList_t, dInt_i, dSl_l, dSl_t, dIsNot_b, z1]
  rw [sFor_ap]
  simp only [eC_ap, eV_ap, eB_ap, eU_ap, eAnd_ap, eOr_ap, tE_ap, tAnd_ap, tOr_ap, tNot_ap, eIf_ap, eCh_ap, eA0_ap, eAc_ap, eAs_ap, eTup_ap, eLs_ap, eOfL_ap, eIxO_ap, eP0_ap, ePs_ap, eSl_ap, iW_ap, iR1_ap, iR2_ap, iZp_ap, gN_ap, gNilD_ap, gConsD_ap, gTupD_ap, cYes_ap, sNil_ap, sSeq_ap, sIf_ap, sRet_ap, sRetN_ap, sSet_ap, sSetO_ap, sExp_ap, sBrk_ap, sCont_ap, sApp_ap, ePop_ap, sPut_ap, eCall_ap, eCallO_ap, eLenO_ap, sDk0_ap, sDput_ap, eSrtDk_ap, eDget_ap, eDin_ap, eRevO_ap, eLenS_ap, eIxS_ap, iSq_ap, nSeq_ap, nRet_ap, sDraws_ap, sAug_ap, sPar_ap, unE, reE, keepF, dIs, dNot, dNeg, dIsT, isTy, tyOf, rets, retsO, List.getElem?_cons_zero, List.getElem?_cons_succ, List.set_cons_zero, List.set_cons_succ, List.length_cons, List.length_nil, List.length_map, List.length_set, Nat.reduceAdd, Nat.reduceSub, Nat.reduceLT, Nat.reduceLeDiff, dAdd_i, dAdd_l, dAdd_t, dSub_i, dMul_i, dDiv_i, dModI_i, dLt_i, dLe_i, dGt_i, dGe_i, dEq_i, dNe_i, dEq_b, dNe_b, if_true, if_false, decide_true, decide_false, Bool.false_eq_true, Bool.not_true, Bool.not_false, and_true, true_and, and_self, or_true, true_or, reduceIte, Int.reduceNeg, Int.reducePow, Int.reduceLT, Int.reduceLE, Int.reduceGT, Int.reduceAdd, Int.reduceMul, Int.reduceSub, Int.reduceToNat, Nat.reducePow, Nat.reduceMul, Nat.reduceEqDiff, Int.reduceBEq, or_self, and_false, false_and, false_or, or_false, Bool.and_true, Bool.true_and, Bool.and_false, Bool.false_and, Bool.and_self, List.length_append, dAbs_i, Int.cast_ofNat_Int, beq_self_eq_true, String.reduceBEq, zip_l, zip_t, walk_l, walk_t, items_l, items_t, dLen_l, dLen_t, dTuple_l, dTuple_t, dList_l, dList_t, dInt_i, dSl_l, dSl_t, dIsNot_b, walk_tup]
  refine wFor_inv (fun r env => ∃ (fs is : List Int) (x3 x4 x5 x6 : SV), r = is.map .int ∧ env = [.fz (sch ws b), .fz (tupI us), .fz (.list (fs.map .int)), x3, x4, x5, x6] ∧ is.foldl (fun found w => sortI (keysOf b w found)) fs = restsOf b us) ?_ ?_ _ _ ⟨[0], us, .un, .un, .un, .un, rfl, rfl, rfl⟩
  · rintro d r env ⟨fs, is, x3, x4, x5, x6, hr, rfl, hf⟩ K hK
    cases is with
    | nil => cases hr
    | cons w is2 =>
      rw [List.map_cons] at hr
      obtain ⟨h1, h2⟩ := List.cons.inj hr
      subst h1 h2
      refine ⟨_, rfl, ?_⟩
      simp only [eC_ap, eV_ap, eB_ap, eU_ap, eAnd_ap, eOr_ap, tE_ap, tAnd_ap, tOr_ap, tNot_ap, eIf_ap, eCh_ap, eA0_ap, eAc_ap, eAs_ap, eTup_ap, eLs_ap, eOfL_ap, eIxO_ap, eP0_ap, ePs_ap, eSl_ap, iW_ap, iR1_ap, iR2_ap, iZp_ap, gN_ap, gNilD_ap, gConsD_ap, gTupD_ap, cYes_ap, sNil_ap, sSeq_ap, sIf_ap, sRet_ap, sRetN_ap, sSet_ap, sSetO_ap, sExp_ap, sBrk_ap, sCont_ap, sApp_ap, ePop_ap, sPut_ap, eCall_ap, eCallO_ap, eLenO_ap, sDk0_ap, sDput_ap, eSrtDk_ap, eDget_ap, eDin_ap, eRevO_ap, eLenS_ap, eIxS_ap, iSq_ap, nSeq_ap, nRet_ap, sDraws_ap, sAug_ap, sPar_ap, unE, reE, keepF, dIs, dNot, dNeg, dIsT, isTy, tyOf, rets, retsO, List.getElem?_cons_zero, List.getElem?_cons_succ, List.set_cons_zero, List.set_cons_succ, List.length_cons, List.length_nil, List.length_map, List.length_set, Nat.reduceAdd, Nat.reduceSub, Nat.reduceLT, Nat.reduceLeDiff, dAdd_i, dAdd_l, dAdd_t, dSub_i, dMul_i, dDiv_i, dModI_i, dLt_i, dLe_i, dGt_i, dGe_i, dEq_i, dNe_i, dEq_b, dNe_b, if_true, if_false, decide_true, decide_false, Bool.false_eq_true, Bool.not_true, Bool.not_false, and_true, true_and, and_self, or_true, true_or, reduceIte, Int.reduceNeg, Int.reducePow, Int.reduceLT, Int.reduceLE, Int.reduceGT, Int.reduceAdd, Int.reduceMul, Int.reduceSub, Int.reduceToNat, Nat.reducePow, Nat.reduceMul, Nat.reduceEqDiff, Int.reduceBEq, or_self, and_false, false_and, false_or, or_false, Bool.and_true, Bool.true_and, Bool.and_false, Bool.false_and, Bool.and_self, List.length_append, dAbs_i, Int.cast_ofNat_Int, beq_self_eq_true, String.reduceBEq, zip_l, zip_t, walk_l, walk_t, items_l, items_t, dLen_l, dLen_t, dTuple_l, dTuple_t, dList_l, dList_t, dInt_i, dSl_l, dSl_t, dIsNot_b]
      rw [sFor_ap]
      simp only [eC_ap, eV_ap, eB_ap, eU_ap, eAnd_ap, eOr_ap, tE_ap, tAnd_ap, tOr_ap, tNot_ap, eIf_ap, eCh_ap, eA0_ap, eAc_ap, eAs_ap, eTup_ap, eLs_ap, eOfL_ap, eIxO_ap, eP0_ap, ePs_ap, eSl_ap, iW_ap, iR1_ap, iR2_ap, iZp_ap, gN_ap, gNilD_ap, gConsD_ap, gTupD_ap, cYes_ap, sNil_ap, sSeq_ap, sIf_ap, sRet_ap, sRetN_ap, sSet_ap, sSetO_ap, sExp_ap, sBrk_ap, sCont_ap, sApp_ap, ePop_ap, sPut_ap, eCall_ap, eCallO_ap, eLenO_ap, sDk0_ap, sDput_ap, eSrtDk_ap, eDget_ap, eDin_ap, eRevO_ap, eLenS_ap, eIxS_ap, iSq_ap, nSeq_ap, nRet_ap, sDraws_ap, sAug_ap, sPar_ap, unE, reE, keepF, dIs, dNot, dNeg, dIsT, isTy, tyOf, rets, retsO, List.getElem?_cons_zero, List.getElem?_cons_succ, List.set_cons_zero, List.set_cons_succ, List.length_cons, List.length_nil, List.length_map, List.length_set, Nat.reduceAdd, Nat.reduceSub, Nat.reduceLT, Nat.reduceLeDiff, dAdd_i, dAdd_l, dAdd_t, dSub_i, dMul_i, dDiv_i, dModI_i, dLt_i, dLe_i, dGt_i, dGe_i, dEq_i, dNe_i, dEq_b, dNe_b, if_true, if_false, decide_true, decide_false, Bool.false_eq_true, Bool.not_true, Bool.not_false, and_true, true_and, and_self, or_true, true_or, reduceIte, Int.reduceNeg, Int.reducePow, Int.reduceLT, Int.reduceLE, Int.reduceGT, Int.reduceAdd, Int.reduceMul, Int.reduceSub, Int.reduceToNat, Nat.reducePow, Nat.reduceMul, Nat.reduceEqDiff, Int.reduceBEq, or_self, and_false, false_and, false_or, or_false, Bool.and_true, Bool.true_and, Bool.and_false, Bool.false_and, Bool.and_self, List.length_append, dAbs_i, Int.cast_ofNat_Int, beq_self_eq_true, String.reduceBEq, zip_l, zip_t, walk_l, walk_t, items_l, items_t, dLen_l, dLen_t, dTuple_l, dTuple_t, dList_l, dList_t, dInt_i, dSl_l, dSl_t, dIsNot_b]
      refine sem_restl ws b w (.fz (tupI us)) _ _ hb hb2 fs [] _ _ (gd_nil b) fun y5 y6 => ?_
      simp only [eC_ap, eV_ap, eB_ap, eU_ap, eAnd_ap, eOr_ap, tE_ap, tAnd_ap, tOr_ap, tNot_ap, eIf_ap, eCh_ap, eA0_ap, eAc_ap, eAs_ap, eTup_ap, eLs_ap, eOfL_ap, eIxO_ap, eP0_ap, ePs_ap, eSl_ap, iW_ap, iR1_ap, iR2_ap, iZp_ap, gN_ap, gNilD_ap, gConsD_ap, gTupD_ap, cYes_ap, sNil_ap, sSeq_ap, sIf_ap, sRet_ap, sRetN_ap, sSet_ap, sSetO_ap, sExp_ap, sBrk_ap, sCont_ap, sApp_ap, ePop_ap, sPut_ap, eCall_ap, eCallO_ap, eLenO_ap, sDk0_ap, sDput_ap, eSrtDk_ap, eDget_ap, eDin_ap, eRevO_ap, eLenS_ap, eIxS_ap, iSq_ap, nSeq_ap, nRet_ap, sDraws_ap, sAug_ap, sPar_ap, unE, reE, keepF, dIs, dNot, dNeg, dIsT, isTy, tyOf, rets, retsO, List.getElem?_cons_zero, List.getElem?_cons_succ, List.set_cons_zero, List.set_cons_succ, List.length_cons, List.length_nil, List.length_map, List.length_set, Nat.reduceAdd, Nat.reduceSub, Nat.reduceLT, Nat.reduceLeDiff, dAdd_i, dAdd_l, dAdd_t, dSub_i, dMul_i, dDiv_i, dModI_i, dLt_i, dLe_i, dGt_i, dGe_i, dEq_i, dNe_i, dEq_b, dNe_b, if_true, if_false, decide_true, decide_false, Bool.false_eq_true, Bool.not_true, Bool.not_false, and_true, true_and, and_self, or_true, true_or, reduceIte, Int.reduceNeg, Int.reducePow, Int.reduceLT, Int.reduceLE, Int.reduceGT, Int.reduceAdd, Int.reduceMul, Int.reduceSub, Int.reduceToNat, Nat.reducePow, Nat.reduceMul, Nat.reduceEqDiff, Int.reduceBEq, or_self, and_false, false_and, false_or, or_false, Bool.and_true, Bool.true_and, Bool.and_false, Bool.false_and, Bool.and_self, List.length_append, dAbs_i, Int.cast_ofNat_Int, beq_self_eq_true, String.reduceBEq, zip_l, zip_t, walk_l, walk_t, items_l, items_t, dLen_l, dLen_t, dTuple_l, dTuple_t, dList_l, dList_t, dInt_i, dSl_l, dSl_t, dIsNot_b, kk_keys]
      exact hK _ ⟨sortI (keysOf b w fs), is2, _, _, _, _, rfl, rfl, hf⟩
  · rintro env ⟨fs, is, x3, x4, x5, x6, hr, rfl, hf⟩
    cases is with
    | nil =>
      simp only [eC_ap, eV_ap, eB_ap, eU_ap, eAnd_ap, eOr_ap, tE_ap, tAnd_ap, tOr_ap, tNot_ap, eIf_ap, eCh_ap, eA0_ap, eAc_ap, eAs_ap, eTup_ap, eLs_ap, eOfL_ap, eIxO_ap, eP0_ap, ePs_ap, eSl_ap, iW_ap, iR1_ap, iR2_ap, iZp_ap, gN_ap, gNilD_ap, gConsD_ap, gTupD_ap, cYes_ap, sNil_ap, sSeq_ap, sIf_ap, sRet_ap, sRetN_ap, sSet_ap, sSetO_ap, sExp_ap, sBrk_ap, sCont_ap, sApp_ap, ePop_ap, sPut_ap, eCall_ap, eCallO_ap, eLenO_ap, sDk0_ap, sDput_ap, eSrtDk_ap, eDget_ap, eDin_ap, eRevO_ap, eLenS_ap, eIxS_ap, iSq_ap, nSeq_ap, nRet_ap, sDraws_ap, sAug_ap, sPar_ap, unE, reE, keepF, dIs, dNot, dNeg, dIsT, isTy, tyOf, rets, retsO, List.getElem?_cons_zero, List.getElem?_cons_succ, List.set_cons_zero, List.set_cons_succ, List.length_cons, List.length_nil, List.length_map, List.length_set, Nat.reduceAdd, Nat.reduceSub, Nat.reduceLT, Nat.reduceLeDiff, dAdd_i, dAdd_l, dAdd_t, dSub_i, dMul_i, dDiv_i, dModI_i, dLt_i, dLe_i, dGt_i, dGe_i, dEq_i, dNe_i, dEq_b, dNe_b, if_true, if_false, decide_true, decide_false, Bool.false_eq_true, Bool.not_true, Bool.not_false, and_true, true_and, and_self, or_true, true_or, reduceIte, Int.reduceNeg, Int.reducePow, Int.reduceLT, Int.reduceLE, Int.reduceGT, Int.reduceAdd, Int.reduceMul, Int.reduceSub, Int.reduceToNat, Nat.reducePow, Nat.reduceMul, Nat.reduceEqDiff, Int.reduceBEq, or_self, and_false, false_and, false_or, or_false, Bool.and_true, Bool.true_and, Bool.and_false, Bool.false_and, Bool.and_self, List.length_append, dAbs_i, Int.cast_ofNat_Int, beq_self_eq_true, String.reduceBEq, zip_l, zip_t, walk_l, walk_t, items_l, items_t, dLen_l, dLen_t, dTuple_l, dTuple_t, dList_l, dList_t, dInt_i, dSl_l, dSl_t, dIsNot_b]
      exact congrArg (fun l => PyData.list (List.map PyData.int l)) hf
    | cons w' is2 => cases hr
end K92

namespace K92
open PySem PySem.Spec PyProof.Rows L2 GxR DL
theorem tup_take (ws : List Int) (p : Nat) : dSl (tupI ws) none (some (p : Int)) = some (tupI (ws.take p)) := by
  unfold tupI dSl
  simp only [cut_take, List.map_take]
theorem tup_drop (ws : List Int) (p : Nat) : dSl (tupI ws) (some (p : Int)) none = some (tupI (ws.drop p)) := by
  unfold tupI dSl
  simp only [cut_drop, List.map_drop]
theorem tup_drop1 (ws : List Int) (p : Nat) : dSl (tupI ws) (some ((p : Int) + 1)) none = some (tupI (ws.drop (p + 1))) := tup_drop ws (p + 1)
theorem tup_drop2 (ws : List Int) (p : Nat) : dSl (tupI ws) (some ((p : Int) + 2)) none = some (tupI (ws.drop (p + 2))) := tup_drop ws (p + 2)
theorem tup_init (ws : List Int) : dSl (tupI ws) none (some (-1)) = some (tupI ws.dropLast) := by
  unfold tupI dSl
  simp only [cut_init, List.map_dropLast]
theorem tup_add (us ws : List Int) (h : us.length + ws.length ≤ 1000) : dAdd (tupI us) (tupI ws) = some (tupI (us ++ ws)) := by
  unfold tupI dAdd
  have hl : (us.map PyData.int).length + (ws.map PyData.int).length ≤ sizeLine := line_small (by rw [List.length_map, List.length_map]; omega)
  simp only [hl, if_true, List.map_append]
theorem can_ints : ∀ is : List Int, PyData.canLayAll0 (is.map PyData.int) = true
  | [] => rfl
  | i :: is => by rw [List.map_cons, PyData.canLayAll0, can_ints is]; rfl
theorem dep_ints : ∀ is : List Int, PyData.depthAll (is.map PyData.int) = 0
  | [] => rfl
  | i :: is => by rw [List.map_cons, PyData.depthAll, dep_ints is]; rfl
theorem shaped_ints (is : List Int) : SeqAt.shaped (.list (is.map PyData.int)) = true := by
  unfold SeqAt.shaped
  rw [PyData.canLay0, can_ints, PyData.depth, dep_ints]
  rfl
theorem any_eqv (r : Int) : ∀ is : List Int, ((is.map PyData.int).any fun z => PyData.eqv z (.int r)) = is.any fun j => j == r
  | [] => rfl
  | i :: is => by rw [List.map_cons, List.any_cons, List.any_cons, any_eqv r is]; rfl
theorem in_ints (r : Int) (is : List Int) : dInA (.int r) (.list (is.map .int)) = some (.bool (is.any fun j => j == r)) := by
  have e : dInA (.int r) (.list (is.map PyData.int)) = dIn (.int r) (.list (is.map PyData.int)) := rfl
  rw [e]
  unfold dIn
  simp only [shaped_ints, shaped_int, Bool.and_self, if_true, any_eqv]
theorem rests_eq (ws us : List Int) (b : Int) (hb : 0 < b) (hb2 : b ≤ 100) : mf_rests_of [sch ws b, tupI us] = some (.list ((restsOf b us).map .int)) := by
  unfold mf_rests_of
  simp only [asSch_eq, asTup_eq]
  exact if_pos ⟨hb, hb2⟩
theorem exch_inv {s v d : D} (h : mf_shows_exchange [s, v] = some d) : ∃ ws b p, ∃ (h1 : p < ws.length) (h2 : p + 1 < ws.length), s = sch ws b ∧ v = .int ((p : Nat) : Int) ∧ 0 < b ∧ b ≤ 100 ∧ ws.length ≤ 10 ∧ d = .bool (exchB ws b p ws[p] ws[p + 1]) := by
  unfold mf_shows_exchange at h
  cases v <;> try cases h
  rename_i i
  simp only at h
  cases hs : asSch s with
  | none => simp only [hs] at h; cases h
  | some wb =>
    obtain ⟨ws, b⟩ := wb
    simp only [hs] at h
    by_cases hc : 0 < b ∧ b ≤ 100 ∧ 0 ≤ i ∧ ws.length ≤ 10
    · rw [if_pos hc] at h
      obtain ⟨p, rfl⟩ : ∃ p : Nat, i = (p : Int) := ⟨i.toNat, by omega⟩
      simp only [Int.toNat_natCast] at h
      cases h1 : ws[p]? with
      | none => simp only [h1] at h; cases h
      | some a =>
        cases h2 : ws[p + 1]? with
        | none => simp only [h1, h2] at h; cases h
        | some c =>
          simp only [h1, h2] at h
          obtain ⟨g1, rfl⟩ := List.getElem?_eq_some_iff.mp h1
          obtain ⟨g2, rfl⟩ := List.getElem?_eq_some_iff.mp h2
          exact ⟨ws, b, p, g1, g2, asSch_inv hs, rfl, hc.1, hc.2.1, hc.2.2.2, (Option.some.inj h).symm⟩
    · rw [if_neg hc] at h
      cases h
theorem ix_tup1 {ws : List Int} {p : Nat} (h : p + 1 < ws.length) : dIx (tupI ws) (.int ((p : Int) + 1)) = some (.int ws[p + 1]) := ix_tup h
theorem sem_other (ws : List Int) (b : Int) (p : Nat) (h1 : p < ws.length) (h2 : p + 1 < ws.length) (hb : 0 < b) (rs : List Int) (S : SV) (i : Int) (hi : 0 ≤ i ∧ i ≤ 9) (Φ : Fl → Prop) : ∀ (js : List Int) (x6 x7 x8 : SV), (∀ j ∈ js, 0 ≤ j ∧ j ≤ 9) →
    ((js.all fun j => !(clash b ws[p] ws[p + 1] rs i j)) = true → ∀ x6 x7 x8, Φ (.nx [S, .fz (.int (p : Int)), .fz (tupI ws), .fz (.int b), .fz (.list (rs.map .int)), .fz (.int i), x6, x7, x8])) →
    ((js.all fun j => !(clash b ws[p] ws[p + 1] rs i j)) = false → ∀ e, Φ (.rt (.bool false) e)) →
    wFor (gN 6) (sSeq (sSet (gN 7) (eB dModI (eB dAdd (eB dMul (eV 5) (eB dIx (eV 2) (eV 1))) (eB dMul (eV 6) (eB dIx (eV 2) (eB dAdd (eV 1) (eC (.int 1)))))) (eV 3)))
    (sSeq (sSet (gN 8) (eB dModI (eB dAdd (eB dMul (eV 6) (eB dIx (eV 2) (eV 1))) (eB dMul (eV 5) (eB dIx (eV 2) (eB dAdd (eV 1) (eC (.int 1)))))) (eV 3)))
    (sIf (DL.tAnd (tE (eB dNe (eV 5) (eV 6))) (DL.tAnd (tE (eB dEq (eV 7) (eV 8))) (tE (eB dInA (eB dModI (eB dSub (eV 3) (eV 7)) (eV 3)) (eV 4))))) (sRet (eC (.bool false))) sNil)))
      (js.map .int) [S, .fz (.int (p : Int)), .fz (tupI ws), .fz (.int b), .fz (.list (rs.map .int)), .fz (.int i), x6, x7, x8] Φ
  | [], x6, x7, x8, _, h, _ => h rfl x6 x7 x8
  | j :: js, x6, x7, x8, hj, h, hf => by
    have hj0 := hj j List.mem_cons_self
    have a1 : (-18446744073709551616 : Int) < i := by omega
    have a2 : i < (18446744073709551616 : Int) := by omega
    have a3 : (-18446744073709551616 : Int) < j := by omega
    have a4 : j < (18446744073709551616 : Int) := by omega
    have go := sem_other ws b p h1 h2 hb rs S i hi Φ js
    rw [List.map_cons, wFor]
    simp only [eC_ap, eV_ap, eB_ap, eU_ap, eAnd_ap, eOr_ap, tE_ap, tAnd_ap, tOr_ap, tNot_ap, eIf_ap, eCh_ap, eA0_ap, eAc_ap, eAs_ap, eTup_ap, eLs_ap, eOfL_ap, eIxO_ap, eP0_ap, ePs_ap, eSl_ap, iW_ap, iR1_ap, iR2_ap, iZp_ap, gN_ap, gNilD_ap, gConsD_ap, gTupD_ap, cYes_ap, sNil_ap, sSeq_ap, sIf_ap, sRet_ap, sRetN_ap, sSet_ap, sSetO_ap, sExp_ap, sBrk_ap, sCont_ap, sApp_ap, ePop_ap, sPut_ap, eCall_ap, eCallO_ap, eLenO_ap, sDk0_ap, sDput_ap, eSrtDk_ap, eDget_ap, eDin_ap, eRevO_ap, eLenS_ap, eIxS_ap, iSq_ap, nSeq_ap, nRet_ap, sDraws_ap, sAug_ap, sPar_ap, unE, reE, keepF, dIs, dNot, dNeg, dIsT, isTy, tyOf, rets, retsO, List.getElem?_cons_zero, List.getElem?_cons_succ, List.set_cons_zero, List.set_cons_succ, List.length_cons, List.length_nil, List.length_map, List.length_set, Nat.reduceAdd, Nat.reduceSub, Nat.reduceLT, Nat.reduceLeDiff, dAdd_i, dAdd_l, dAdd_t, dSub_i, dMul_i, dDiv_i, dModI_i, dLt_i, dLe_i, dGt_i, dGe_i, dEq_i, dNe_i, dEq_b, dNe_b, if_true, if_false, decide_true, decide_false, Bool.false_eq_true, Bool.not_true, Bool.not_false, and_true, true_and, and_self, or_true, true_or, reduceIte, Int.reduceNeg, Int.reducePow, Int.reduceLT, Int.reduceLE, Int.reduceGT, Int.reduceAdd, Int.reduceMul, Int.reduceSub, Int.reduceToNat, Nat.reducePow, Nat.reduceMul, Nat.reduceEqDiff, Int.reduceBEq, or_self, and_false, false_and, false_or, or_false, Bool.and_true, Bool.true_and, Bool.and_false, Bool.false_and, Bool.and_self, List.length_append, dAbs_i, Int.cast_ofNat_Int, beq_self_eq_true, String.reduceBEq, zip_l, zip_t, walk_l, walk_t, items_l, items_t, dLen_l, dLen_t, dTuple_l, dTuple_t, dList_l, dList_t, dInt_i, dSl_l, dSl_t, dIsNot_b, ix_tup h1, ix_tup1 h2, a1, a2, a3, a4, hb, in_ints]
    rw [List.all_cons] at h hf
    unfold clash at h hf
    cases e1 : (i == j)
    · cases e2 : ((i * ws[p] + j * ws[p + 1]) % b == (j * ws[p] + i * ws[p + 1]) % b)
      · simp only [e1, e2, eC_ap, eV_ap, eB_ap, eU_ap, eAnd_ap, eOr_ap, tE_ap, tAnd_ap, tOr_ap, tNot_ap, eIf_ap, eCh_ap, eA0_ap, eAc_ap, eAs_ap, eTup_ap, eLs_ap, eOfL_ap, eIxO_ap, eP0_ap, ePs_ap, eSl_ap, iW_ap, iR1_ap, iR2_ap, iZp_ap, gN_ap, gNilD_ap, gConsD_ap, gTupD_ap, cYes_ap, sNil_ap, sSeq_ap, sIf_ap, sRet_ap, sRetN_ap, sSet_ap, sSetO_ap, sExp_ap, sBrk_ap, sCont_ap, sApp_ap, ePop_ap, sPut_ap, eCall_ap, eCallO_ap, eLenO_ap, sDk0_ap, sDput_ap, eSrtDk_ap, eDget_ap, eDin_ap, eRevO_ap, eLenS_ap, eIxS_ap, iSq_ap, nSeq_ap, nRet_ap, sDraws_ap, sAug_ap, sPar_ap, unE, reE, keepF, dIs, dNot, dNeg, dIsT, isTy, tyOf, rets, retsO, List.getElem?_cons_zero, List.getElem?_cons_succ, List.set_cons_zero, List.set_cons_succ, List.length_cons, List.length_nil, List.length_map, List.length_set, Nat.reduceAdd, Nat.reduceSub, Nat.reduceLT, Nat.reduceLeDiff, dAdd_i, dAdd_l, dAdd_t, dSub_i, dMul_i, dDiv_i, dModI_i, dLt_i, dLe_i, dGt_i, dGe_i, dEq_i, dNe_i, dEq_b, dNe_b, if_true, if_false, decide_true, decide_false, Bool.false_eq_true, Bool.not_true, Bool.not_false, and_true, true_and, and_self, or_true, true_or, reduceIte, Int.reduceNeg, Int.reducePow, Int.reduceLT, Int.reduceLE, Int.reduceGT, Int.reduceAdd, Int.reduceMul, Int.reduceSub, Int.reduceToNat, Nat.reducePow, Nat.reduceMul, Nat.reduceEqDiff, Int.reduceBEq, or_self, and_false, false_and, false_or, or_false, Bool.and_true, Bool.true_and, Bool.and_false, Bool.false_and, Bool.and_self, List.length_append, dAbs_i, Int.cast_ofNat_Int, beq_self_eq_true, String.reduceBEq, zip_l, zip_t, walk_l, walk_t, items_l, items_t, dLen_l, dLen_t, dTuple_l, dTuple_t, dList_l, dList_t, dInt_i, dSl_l, dSl_t, dIsNot_b] at h hf ⊢
        exact go _ _ _ (fun k hk => hj k (List.mem_cons_of_mem _ hk)) h hf
      · cases e3 : (rs.any fun r => r == (b - (i * ws[p] + j * ws[p + 1]) % b) % b)
        · simp only [e1, e2, e3, eC_ap, eV_ap, eB_ap, eU_ap, eAnd_ap, eOr_ap, tE_ap, tAnd_ap, tOr_ap, tNot_ap, eIf_ap, eCh_ap, eA0_ap, eAc_ap, eAs_ap, eTup_ap, eLs_ap, eOfL_ap, eIxO_ap, eP0_ap, ePs_ap, eSl_ap, iW_ap, iR1_ap, iR2_ap, iZp_ap, gN_ap, gNilD_ap, gConsD_ap, gTupD_ap, cYes_ap, sNil_ap, sSeq_ap, sIf_ap, sRet_ap, sRetN_ap, sSet_ap, sSetO_ap, sExp_ap, sBrk_ap, sCont_ap, sApp_ap, ePop_ap, sPut_ap, eCall_ap, eCallO_ap, eLenO_ap, sDk0_ap, sDput_ap, eSrtDk_ap, eDget_ap, eDin_ap, eRevO_ap, eLenS_ap, eIxS_ap, iSq_ap, nSeq_ap, nRet_ap, sDraws_ap, sAug_ap, sPar_ap, unE, reE, keepF, dIs, dNot, dNeg, dIsT, isTy, tyOf, rets, retsO, List.getElem?_cons_zero, List.getElem?_cons_succ, List.set_cons_zero, List.set_cons_succ, List.length_cons, List.length_nil, List.length_map, List.length_set, Nat.reduceAdd, Nat.reduceSub, Nat.reduceLT, Nat.reduceLeDiff, dAdd_i, dAdd_l, dAdd_t, dSub_i, dMul_i, dDiv_i, dModI_i, dLt_i, dLe_i, dGt_i, dGe_i, dEq_i, dNe_i, dEq_b, dNe_b, if_true, if_false, decide_true, decide_false, Bool.false_eq_true, Bool.not_true, Bool.not_false, and_true, true_and, and_self, or_true, true_or, reduceIte, Int.reduceNeg, Int.reducePow, Int.reduceLT, Int.reduceLE, Int.reduceGT, Int.reduceAdd, Int.reduceMul, Int.reduceSub, Int.reduceToNat, Nat.reducePow, Nat.reduceMul, Nat.reduceEqDiff, Int.reduceBEq, or_self, and_false, false_and, false_or, or_false, Bool.and_true, Bool.true_and, Bool.and_false, Bool.false_and, Bool.and_self, List.length_append, dAbs_i, Int.cast_ofNat_Int, beq_self_eq_true, String.reduceBEq, zip_l, zip_t, walk_l, walk_t, items_l, items_t, dLen_l, dLen_t, dTuple_l, dTuple_t, dList_l, dList_t, dInt_i, dSl_l, dSl_t, dIsNot_b] at h hf
          simp only [e1, e2, e3, hb, in_ints, eC_ap, eV_ap, eB_ap, eU_ap, eAnd_ap, eOr_ap, tE_ap, tAnd_ap, tOr_ap, tNot_ap, eIf_ap, eCh_ap, eA0_ap, eAc_ap, eAs_ap, eTup_ap, eLs_ap, eOfL_ap, eIxO_ap, eP0_ap, ePs_ap, eSl_ap, iW_ap, iR1_ap, iR2_ap, iZp_ap, gN_ap, gNilD_ap, gConsD_ap, gTupD_ap, cYes_ap, sNil_ap, sSeq_ap, sIf_ap, sRet_ap, sRetN_ap, sSet_ap, sSetO_ap, sExp_ap, sBrk_ap, sCont_ap, sApp_ap, ePop_ap, sPut_ap, eCall_ap, eCallO_ap, eLenO_ap, sDk0_ap, sDput_ap, eSrtDk_ap, eDget_ap, eDin_ap, eRevO_ap, eLenS_ap, eIxS_ap, iSq_ap, nSeq_ap, nRet_ap, sDraws_ap, sAug_ap, sPar_ap, unE, reE, keepF, dIs, dNot, dNeg, dIsT, isTy, tyOf, rets, retsO, List.getElem?_cons_zero, List.getElem?_cons_succ, List.set_cons_zero, List.set_cons_succ, List.length_cons, List.length_nil, List.length_map, List.length_set, Nat.reduceAdd, Nat.reduceSub, Nat.reduceLT, Nat.reduceLeDiff, dAdd_i, dAdd_l, dAdd_t, dSub_i, dMul_i, dDiv_i, dModI_i, dLt_i, dLe_i, dGt_i, dGe_i, dEq_i, dNe_i, dEq_b, dNe_b, if_true, if_false, decide_true, decide_false, Bool.false_eq_true, Bool.not_true, Bool.not_false, and_true, true_and, and_self, or_true, true_or, reduceIte, Int.reduceNeg, Int.reducePow, Int.reduceLT, Int.reduceLE, Int.reduceGT, Int.reduceAdd, Int.reduceMul, Int.reduceSub, Int.reduceToNat, Nat.reducePow, Nat.reduceMul, Nat.reduceEqDiff, Int.reduceBEq, or_self, and_false, false_and, false_or, or_false, Bool.and_true, Bool.true_and, Bool.and_false, Bool.false_and, Bool.and_self, List.length_append, dAbs_i, Int.cast_ofNat_Int, beq_self_eq_true, String.reduceBEq, zip_l, zip_t, walk_l, walk_t, items_l, items_t, dLen_l, dLen_t, dTuple_l, dTuple_t, dList_l, dList_t, dInt_i, dSl_l, dSl_t, dIsNot_b]
          exact go _ _ _ (fun k hk => hj k (List.mem_cons_of_mem _ hk)) h hf
        · simp only [e1, e2, e3, eC_ap, eV_ap, eB_ap, eU_ap, eAnd_ap, eOr_ap, tE_ap, tAnd_ap, tOr_ap, tNot_ap, eIf_ap, eCh_ap, eA0_ap, eAc_ap, eAs_ap, eTup_ap, eLs_ap, eOfL_ap, eIxO_ap, eP0_ap, ePs_ap, eSl_ap, iW_ap, iR1_ap, iR2_ap, iZp_ap, gN_ap, gNilD_ap, gConsD_ap, gTupD_ap, cYes_ap, sNil_ap, sSeq_ap, sIf_ap, sRet_ap, sRetN_ap, sSet_ap, sSetO_ap, sExp_ap, sBrk_ap, sCont_ap, sApp_ap, ePop_ap, sPut_ap, eCall_ap, eCallO_ap, eLenO_ap, sDk0_ap, sDput_ap, eSrtDk_ap, eDget_ap, eDin_ap, eRevO_ap, eLenS_ap, eIxS_ap, iSq_ap, nSeq_ap, nRet_ap, sDraws_ap, sAug_ap, sPar_ap, unE, reE, keepF, dIs, dNot, dNeg, dIsT, isTy, tyOf, rets, retsO, List.getElem?_cons_zero, List.getElem?_cons_succ, List.set_cons_zero, List.set_cons_succ, List.length_cons, List.length_nil, List.length_map, List.length_set, Nat.reduceAdd, Nat.reduceSub, Nat.reduceLT, Nat.reduceLeDiff, dAdd_i, dAdd_l, dAdd_t, dSub_i, dMul_i, dDiv_i, dModI_i, dLt_i, dLe_i, dGt_i, dGe_i, dEq_i, dNe_i, dEq_b, dNe_b, if_true, if_false, decide_true, decide_false, Bool.false_eq_true, Bool.not_true, Bool.not_false, and_true, true_and, and_self, or_true, true_or, reduceIte, Int.reduceNeg, Int.reducePow, Int.reduceLT, Int.reduceLE, Int.reduceGT, Int.reduceAdd, Int.reduceMul, Int.reduceSub, Int.reduceToNat, Nat.reducePow, Nat.reduceMul, Nat.reduceEqDiff, Int.reduceBEq, or_self, and_false, false_and, false_or, or_false, Bool.and_true, Bool.true_and, Bool.and_false, Bool.false_and, Bool.and_self, List.length_append, dAbs_i, Int.cast_ofNat_Int, beq_self_eq_true, String.reduceBEq, zip_l, zip_t, walk_l, walk_t, items_l, items_t, dLen_l, dLen_t, dTuple_l, dTuple_t, dList_l, dList_t, dInt_i, dSl_l, dSl_t, dIsNot_b] at h hf
          simp only [e1, e2, e3, hb, in_ints, eC_ap, eV_ap, eB_ap, eU_ap, eAnd_ap, eOr_ap, tE_ap, tAnd_ap, tOr_ap, tNot_ap, eIf_ap, eCh_ap, eA0_ap, eAc_ap, eAs_ap, eTup_ap, eLs_ap, eOfL_ap, eIxO_ap, eP0_ap, ePs_ap, eSl_ap, iW_ap, iR1_ap, iR2_ap, iZp_ap, gN_ap, gNilD_ap, gConsD_ap, gTupD_ap, cYes_ap, sNil_ap, sSeq_ap, sIf_ap, sRet_ap, sRetN_ap, sSet_ap, sSetO_ap, sExp_ap, sBrk_ap, sCont_ap, sApp_ap, ePop_ap, sPut_ap, eCall_ap, eCallO_ap, eLenO_ap, sDk0_ap, sDput_ap, eSrtDk_ap, eDget_ap, eDin_ap, eRevO_ap, eLenS_ap, eIxS_ap, iSq_ap, nSeq_ap, nRet_ap, sDraws_ap, sAug_ap, sPar_ap, unE, reE, keepF, dIs, dNot, dNeg, dIsT, isTy, tyOf, rets, retsO, List.getElem?_cons_zero, List.getElem?_cons_succ, List.set_cons_zero, List.set_cons_succ, List.length_cons, List.length_nil, List.length_map, List.length_set, Nat.reduceAdd, Nat.reduceSub, Nat.reduceLT, Nat.reduceLeDiff, dAdd_i, dAdd_l, dAdd_t, dSub_i, dMul_i, dDiv_i, dModI_i, dLt_i, dLe_i, dGt_i, dGe_i, dEq_i, dNe_i, dEq_b, dNe_b, if_true, if_false, decide_true, decide_false, Bool.false_eq_true, Bool.not_true, Bool.not_false, and_true, true_and, and_self, or_true, true_or, reduceIte, Int.reduceNeg, Int.reducePow, Int.reduceLT, Int.reduceLE, Int.reduceGT, Int.reduceAdd, Int.reduceMul, Int.reduceSub, Int.reduceToNat, Nat.reducePow, Nat.reduceMul, Nat.reduceEqDiff, Int.reduceBEq, or_self, and_false, false_and, false_or, or_false, Bool.and_true, Bool.true_and, Bool.and_false, Bool.false_and, Bool.and_self, List.length_append, dAbs_i, Int.cast_ofNat_Int, beq_self_eq_true, String.reduceBEq, zip_l, zip_t, walk_l, walk_t, items_l, items_t, dLen_l, dLen_t, dTuple_l, dTuple_t, dList_l, dList_t, dInt_i, dSl_l, dSl_t, dIsNot_b]
          exact hf trivial _
    · simp only [e1, eC_ap, eV_ap, eB_ap, eU_ap, eAnd_ap, eOr_ap, tE_ap, tAnd_ap, tOr_ap, tNot_ap, eIf_ap, eCh_ap, eA0_ap, eAc_ap, eAs_ap, eTup_ap, eLs_ap, eOfL_ap, eIxO_ap, eP0_ap, ePs_ap, eSl_ap, iW_ap, iR1_ap, iR2_ap, iZp_ap, gN_ap, gNilD_ap, gConsD_ap, gTupD_ap, cYes_ap, sNil_ap, sSeq_ap, sIf_ap, sRet_ap, sRetN_ap, sSet_ap, sSetO_ap, sExp_ap, sBrk_ap, sCont_ap, sApp_ap, ePop_ap, sPut_ap, eCall_ap, eCallO_ap, eLenO_ap, sDk0_ap, sDput_ap, eSrtDk_ap, eDget_ap, eDin_ap, eRevO_ap, eLenS_ap, eIxS_ap, iSq_ap, nSeq_ap, nRet_ap, sDraws_ap, sAug_ap, sPar_ap, unE, reE, keepF, dIs, dNot, dNeg, dIsT, isTy, tyOf, rets, retsO, List.getElem?_cons_zero, List.getElem?_cons_succ, List.set_cons_zero, List.set_cons_succ, List.length_cons, List.length_nil, List.length_map, List.length_set, Nat.reduceAdd, Nat.reduceSub, Nat.reduceLT, Nat.reduceLeDiff, dAdd_i, dAdd_l, dAdd_t, dSub_i, dMul_i, dDiv_i, dModI_i, dLt_i, dLe_i, dGt_i, dGe_i, dEq_i, dNe_i, dEq_b, dNe_b, if_true, if_false, decide_true, decide_false, Bool.false_eq_true, Bool.not_true, Bool.not_false, and_true, true_and, and_self, or_true, true_or, reduceIte, Int.reduceNeg, Int.reducePow, Int.reduceLT, Int.reduceLE, Int.reduceGT, Int.reduceAdd, Int.reduceMul, Int.reduceSub, Int.reduceToNat, Nat.reducePow, Nat.reduceMul, Nat.reduceEqDiff, Int.reduceBEq, or_self, and_false, false_and, false_or, or_false, Bool.and_true, Bool.true_and, Bool.and_false, Bool.false_and, Bool.and_self, List.length_append, dAbs_i, Int.cast_ofNat_Int, beq_self_eq_true, String.reduceBEq, zip_l, zip_t, walk_l, walk_t, items_l, items_t, dLen_l, dLen_t, dTuple_l, dTuple_t, dList_l, dList_t, dInt_i, dSl_l, dSl_t, dIsNot_b] at h hf ⊢
      exact go _ _ _ (fun k hk => hj k (List.mem_cons_of_mem _ hk)) h hf
theorem sem_exchange : ∀ ds d, ds.length = 2 → mf_shows_exchange ds = some d → sm_shows_exchange (env0 N_shows_exchange ds) (rets d) := by
  intro ds d hl hm
  obtain ⟨s, v, rfl⟩ := len2 hl
  clear hl
  obtain ⟨ws, b, p, h1, h2, rfl, rfl, hb, hb2, h10, rfl⟩ := exch_inv hm
  clear hm
  unfold sm_shows_exchange
  simp only [N_shows_exchange, env0, List.map_cons, List.map_nil, List.length_cons, List.length_nil, Nat.reduceAdd, Nat.reduceSub, List.replicate_succ, List.replicate_zero, List.cons_append, List.nil_append]
  have hg : ∀ env : Ev, gTupD 2 (gConsD (gN 2) (gConsD (gN 3) gNilD)) (sch ws b) env = gConsD (gN 2) (gConsD (gN 3) gNilD) [tupI ws, .int b] env := fun env => rfl
  have ha := tup_add (ws.take p) (ws.drop (p + 2)) (by rw [List.length_take, List.length_drop]; omega)
  have hr := rests_eq ws (ws.take p ++ ws.drop (p + 2)) b hb hb2
  simp only [sSeq_ap, sSet_ap, eV_ap, List.getElem?_cons_zero, hg]
  simp only [eC_ap, eV_ap, eB_ap, eU_ap, eAnd_ap, eOr_ap, tE_ap, tAnd_ap, tOr_ap, tNot_ap, eIf_ap, eCh_ap, eA0_ap, eAc_ap, eAs_ap, eTup_ap, eLs_ap, eOfL_ap, eIxO_ap, eP0_ap, ePs_ap, eSl_ap, iW_ap, iR1_ap, iR2_ap, iZp_ap, gN_ap, gNilD_ap, gConsD_ap, gTupD_ap, cYes_ap, sNil_ap, sSeq_ap, sIf_ap, sRet_ap, sRetN_ap, sSet_ap, sSetO_ap, sExp_ap, sBrk_ap, sCont_ap, sApp_ap, ePop_ap, sPut_ap, eCall_ap, eCallO_ap, eLenO_ap, sDk0_ap, sDput_ap, eSrtDk_ap, eDget_ap, eDin_ap, eRevO_ap, eLenS_ap, eIxS_ap, iSq_ap, nSeq_ap, nRet_ap, sDraws_ap, sAug_ap, sPar_ap, unE, reE, keepF, dIs, dNot, dNeg, dIsT, isTy, tyOf, rets, retsO, List.getElem?_cons_zero, List.getElem?_cons_succ, List.set_cons_zero, List.set_cons_succ, List.length_cons, List.length_nil, List.length_map, List.length_set, Nat.reduceAdd, Nat.reduceSub, Nat.reduceLT, Nat.reduceLeDiff, dAdd_i, dAdd_l, dAdd_t, dSub_i, dMul_i, dDiv_i, dModI_i, dLt_i, dLe_i, dGt_i, dGe_i, dEq_i, dNe_i, dEq_b, dNe_b, if_true, if_false, decide_true, decide_false, Bool.false_eq_true, Bool.not_true, Bool.not_false, and_true, true_and, and_self, or_true, true_or, reduceIte, Int.reduceNeg, Int.reducePow, Int.reduceLT, Int.reduceLE, Int.reduceGT, Int.reduceAdd, Int.reduceMul, Int.reduceSub, Int.reduceToNat, Nat.reducePow, Nat.reduceMul, Nat.reduceEqDiff, Int.reduceBEq, or_self, and_false, false_and, false_or, or_false, Bool.and_true, Bool.true_and, Bool.and_false, Bool.false_and, Bool.and_self, List.length_append, dAbs_i, Int.cast_ofNat_Int, beq_self_eq_true, String.reduceBEq, zip_l, zip_t, walk_l, walk_t, items_l, items_t, dLen_l, dLen_t, dTuple_l, dTuple_t, dList_l, dList_t, dInt_i, dSl_l, dSl_t, dIsNot_b, tup_take, tup_drop2, ha, hr]
  rw [range1_ap _ (s62 (by decide) (by decide)), rng10]
  have ds := digits_small
  generalize hrs : restsOf b (ws.take p ++ ws.drop (p + 2)) = rs
  refine wFor_inv (fun r env => ∃ (is : List Int) (x5 x6 x7 x8 : SV), r = is.map .int ∧ (∀ i ∈ is, 0 ≤ i ∧ i ≤ 9) ∧ env = [.fz (sch ws b), .fz (.int (p : Int)), .fz (tupI ws), .fz (.int b), .fz (.list (rs.map .int)), x5, x6, x7, x8] ∧
    (is.all fun i => digits.all fun j => !(clash b ws[p] ws[p + 1] rs i j)) = exchB ws b p ws[p] ws[p + 1]) ?_ ?_ _ _ ⟨digits, .un, .un, .un, .un, rfl, ds, rfl, by unfold exchB; rw [hrs]⟩
  · rintro d r env ⟨is, x5, x6, x7, x8, hr, hi, rfl, he⟩ K hK
    cases is with
    | nil => cases hr
    | cons i is2 =>
      rw [List.map_cons] at hr
      obtain ⟨g1, g2⟩ := List.cons.inj hr
      subst g1 g2
      refine ⟨_, rfl, ?_⟩
      rw [List.all_cons] at he
      rw [range1_ap _ (s62 (by decide) (by decide)), rng10]
      refine sem_other ws b p h1 h2 hb rs _ i (hi i List.mem_cons_self) _ digits _ _ _ ds (fun ht y6 y7 y8 => ?_) fun hf e => ?_
      · rw [ht, Bool.true_and] at he
        exact hK _ ⟨is2, _, _, _, _, rfl, fun k hk => hi k (List.mem_cons_of_mem _ hk), rfl, he⟩
      · rw [hf, Bool.false_and] at he
        exact congrArg PyData.bool he
  · rintro env ⟨is, x5, x6, x7, x8, hr, hi, rfl, he⟩
    cases is with
    | nil => exact congrArg PyData.bool he
    | cons i is2 => cases hr
/-! ### mark_for -/
theorem right_eq {ws ns : List Int} {b : Int} (hb : 0 < b) (hl : ns.length = ws.length) (h10 : ws.length ≤ 10) (hd : dig ns = true) : mf_right [sch ws b, tupI ns] = some (.bool (R ws b ns)) := by
  unfold mf_right
  simp only [asSch_eq, asTup_eq]
  exact if_pos ⟨hb, hl, h10, hd⟩
theorem mark_inv {s v d : D} (h : mf_mark_for [s, v] = some d) : ∃ ws b is, s = sch ws b ∧ v = tupI is ∧ 0 < b ∧ is.length + 1 = ws.length ∧ ws.length ≤ 10 ∧ dig is = true ∧ d = markOf ws b is := by
  unfold mf_mark_for at h
  cases hs : asSch s with
  | none => simp only [hs] at h; cases h
  | some wb =>
    obtain ⟨ws, b⟩ := wb
    cases hn : asTup v with
    | none => simp only [hs, hn] at h; cases h
    | some is =>
      simp only [hs, hn] at h
      by_cases hc : 0 < b ∧ is.length + 1 = ws.length ∧ ws.length ≤ 10 ∧ dig is = true
      · rw [if_pos hc] at h
        exact ⟨ws, b, is, asSch_inv hs, asTup_inv hn, hc.1, hc.2.1, hc.2.2.1, hc.2.2.2, (Option.some.inj h).symm⟩
      · rw [if_neg hc] at h
        cases h
theorem dig_snoc {is : List Int} {k : Int} (h : dig is = true) (hk : 0 ≤ k ∧ k ≤ 9) : dig (is ++ [k]) = true := by
  unfold dig at h ⊢
  rw [List.all_append, h]
  simp [hk]
theorem items_tup (is : List Int) : itemsOf (tupI is) = some (is.map .int) := (Eq.refl _).trans (Eq.refl _)
theorem tup_snoc (is : List Int) (k : Int) : (PyData.tuple (is.map PyData.int ++ [.int k]) : D) = tupI (is ++ [k]) := by
  unfold tupI
  rw [List.map_append]
  rfl
theorem sem_mark : ∀ ds d, ds.length = 2 → mf_mark_for ds = some d → sm_mark_for (env0 N_mark_for ds) (rets d) := by
  intro ds d hl hm
  obtain ⟨s, v, rfl⟩ := len2 hl
  clear hl
  obtain ⟨ws, b, is, rfl, rfl, hb, hl, h10, hd, rfl⟩ := mark_inv hm
  clear hm
  unfold sm_mark_for
  simp only [N_mark_for, env0, List.map_cons, List.map_nil, List.length_cons, List.length_nil, Nat.reduceAdd, Nat.reduceSub, List.replicate_succ, List.replicate_zero, List.cons_append, List.nil_append]
  rw [sSeq_ap]
  rw [range1_ap _ (s62 (by decide) (by decide)), rng10]
  have ds := digits_small
  have hsz : is.length + 1 ≤ sizeLine := line_small (by omega)
  refine wFor_inv (fun r env => ∃ (ks : List Int) (x2 : SV), r = ks.map .int ∧ (∀ i ∈ ks, 0 ≤ i ∧ i ≤ 9) ∧ env = [.fz (sch ws b), .fz (tupI is), x2] ∧
    (match ks.find? (fun i => R ws b (is ++ [i])) with
      | some i => (PyData.int i : D)
      | none => .none) = markOf ws b is) ?_ ?_ _ _ ⟨digits, .un, rfl, ds, rfl, rfl⟩
  · rintro d r env ⟨ks, x2, hr, hi, rfl, he⟩ K hK
    cases ks with
    | nil => cases hr
    | cons k ks2 =>
      rw [List.map_cons] at hr
      obtain ⟨g1, g2⟩ := List.cons.inj hr
      subst g1 g2
      refine ⟨_, rfl, ?_⟩
      have hr := right_eq hb (ns := is ++ [k]) (by rw [List.length_append]; exact hl) h10 (dig_snoc hd (hi k List.mem_cons_self))
      simp only [eC_ap, eV_ap, eB_ap, eU_ap, eAnd_ap, eOr_ap, tE_ap, tAnd_ap, tOr_ap, tNot_ap, eIf_ap, eCh_ap, eA0_ap, eAc_ap, eAs_ap, eTup_ap, eLs_ap, eOfL_ap, eIxO_ap, eP0_ap, ePs_ap, eSl_ap, iW_ap, iR1_ap, iR2_ap, iZp_ap, gN_ap, gNilD_ap, gConsD_ap, gTupD_ap, cYes_ap, sNil_ap, sSeq_ap, sIf_ap, sRet_ap, sRetN_ap, sSet_ap, sSetO_ap, sExp_ap, sBrk_ap, sCont_ap, sApp_ap, ePop_ap, sPut_ap, eCall_ap, eCallO_ap, eLenO_ap, sDk0_ap, sDput_ap, eSrtDk_ap, eDget_ap, eDin_ap, eRevO_ap, eLenS_ap, eIxS_ap, iSq_ap, nSeq_ap, nRet_ap, sDraws_ap, sAug_ap, sPar_ap, unE, reE, keepF, dIs, dNot, dNeg, dIsT, isTy, tyOf, rets, retsO, List.getElem?_cons_zero, List.getElem?_cons_succ, List.set_cons_zero, List.set_cons_succ, List.length_cons, List.length_nil, List.length_map, List.length_set, Nat.reduceAdd, Nat.reduceSub, Nat.reduceLT, Nat.reduceLeDiff, dAdd_i, dAdd_l, dAdd_t, dSub_i, dMul_i, dDiv_i, dModI_i, dLt_i, dLe_i, dGt_i, dGe_i, dEq_i, dNe_i, dEq_b, dNe_b, if_true, if_false, decide_true, decide_false, Bool.false_eq_true, Bool.not_true, Bool.not_false, and_true, true_and, and_self, or_true, true_or, reduceIte, Int.reduceNeg, Int.reducePow, Int.reduceLT, Int.reduceLE, Int.reduceGT, Int.reduceAdd, Int.reduceMul, Int.reduceSub, Int.reduceToNat, Nat.reducePow, Nat.reduceMul, Nat.reduceEqDiff, Int.reduceBEq, or_self, and_false, false_and, false_or, or_false, Bool.and_true, Bool.true_and, Bool.and_false, Bool.false_and, Bool.and_self, List.length_append, dAbs_i, Int.cast_ofNat_Int, beq_self_eq_true, String.reduceBEq, zip_l, zip_t, walk_l, walk_t, items_l, items_t, dLen_l, dLen_t, dTuple_l, dTuple_t, dList_l, dList_t, dInt_i, dSl_l, dSl_t, dIsNot_b, items_tup, hsz, tup_snoc, mf_is_right, hr]
      rw [List.find?_cons] at he
      cases hR : R ws b (is ++ [k])
      · simp only [hR] at he ⊢
        exact hK _ ⟨ks2, _, rfl, fun j hj => hi j (List.mem_cons_of_mem _ hj), rfl, he⟩
      · simp only [hR, eC_ap, eV_ap, eB_ap, eU_ap, eAnd_ap, eOr_ap, tE_ap, tAnd_ap, tOr_ap, tNot_ap, eIf_ap, eCh_ap, eA0_ap, eAc_ap, eAs_ap, eTup_ap, eLs_ap, eOfL_ap, eIxO_ap, eP0_ap, ePs_ap, eSl_ap, iW_ap, iR1_ap, iR2_ap, iZp_ap, gN_ap, gNilD_ap, gConsD_ap, gTupD_ap, cYes_ap, sNil_ap, sSeq_ap, sIf_ap, sRet_ap, sRetN_ap, sSet_ap, sSetO_ap, sExp_ap, sBrk_ap, sCont_ap, sApp_ap, ePop_ap, sPut_ap, eCall_ap, eCallO_ap, eLenO_ap, sDk0_ap, sDput_ap, eSrtDk_ap, eDget_ap, eDin_ap, eRevO_ap, eLenS_ap, eIxS_ap, iSq_ap, nSeq_ap, nRet_ap, sDraws_ap, sAug_ap, sPar_ap, unE, reE, keepF, dIs, dNot, dNeg, dIsT, isTy, tyOf, rets, retsO, List.getElem?_cons_zero, List.getElem?_cons_succ, List.set_cons_zero, List.set_cons_succ, List.length_cons, List.length_nil, List.length_map, List.length_set, Nat.reduceAdd, Nat.reduceSub, Nat.reduceLT, Nat.reduceLeDiff, dAdd_i, dAdd_l, dAdd_t, dSub_i, dMul_i, dDiv_i, dModI_i, dLt_i, dLe_i, dGt_i, dGe_i, dEq_i, dNe_i, dEq_b, dNe_b, if_true, if_false, decide_true, decide_false, Bool.false_eq_true, Bool.not_true, Bool.not_false, and_true, true_and, and_self, or_true, true_or, reduceIte, Int.reduceNeg, Int.reducePow, Int.reduceLT, Int.reduceLE, Int.reduceGT, Int.reduceAdd, Int.reduceMul, Int.reduceSub, Int.reduceToNat, Nat.reducePow, Nat.reduceMul, Nat.reduceEqDiff, Int.reduceBEq, or_self, and_false, false_and, false_or, or_false, Bool.and_true, Bool.true_and, Bool.and_false, Bool.false_and, Bool.and_self, List.length_append, dAbs_i, Int.cast_ofNat_Int, beq_self_eq_true, String.reduceBEq, zip_l, zip_t, walk_l, walk_t, items_l, items_t, dLen_l, dLen_t, dTuple_l, dTuple_t, dList_l, dList_t, dInt_i, dSl_l, dSl_t, dIsNot_b] at he ⊢
        exact he
  · rintro env ⟨ks, x2, hr, hi, rfl, he⟩
    cases ks with
    | nil =>
      simp only [eC_ap, eV_ap, eB_ap, eU_ap, eAnd_ap, eOr_ap, tE_ap, tAnd_ap, tOr_ap, tNot_ap, eIf_ap, eCh_ap, eA0_ap, eAc_ap, eAs_ap, eTup_ap, eLs_ap, eOfL_ap, eIxO_ap, eP0_ap, ePs_ap, eSl_ap, iW_ap, iR1_ap, iR2_ap, iZp_ap, gN_ap, gNilD_ap, gConsD_ap, gTupD_ap, cYes_ap, sNil_ap, sSeq_ap, sIf_ap, sRet_ap, sRetN_ap, sSet_ap, sSetO_ap, sExp_ap, sBrk_ap, sCont_ap, sApp_ap, ePop_ap, sPut_ap, eCall_ap, eCallO_ap, eLenO_ap, sDk0_ap, sDput_ap, eSrtDk_ap, eDget_ap, eDin_ap, eRevO_ap, eLenS_ap, eIxS_ap, iSq_ap, nSeq_ap, nRet_ap, sDraws_ap, sAug_ap, sPar_ap, unE, reE, keepF, dIs, dNot, dNeg, dIsT, isTy, tyOf, rets, retsO, List.getElem?_cons_zero, List.getElem?_cons_succ, List.set_cons_zero, List.set_cons_succ, List.length_cons, List.length_nil, List.length_map, List.length_set, Nat.reduceAdd, Nat.reduceSub, Nat.reduceLT, Nat.reduceLeDiff, dAdd_i, dAdd_l, dAdd_t, dSub_i, dMul_i, dDiv_i, dModI_i, dLt_i, dLe_i, dGt_i, dGe_i, dEq_i, dNe_i, dEq_b, dNe_b, if_true, if_false, decide_true, decide_false, Bool.false_eq_true, Bool.not_true, Bool.not_false, and_true, true_and, and_self, or_true, true_or, reduceIte, Int.reduceNeg, Int.reducePow, Int.reduceLT, Int.reduceLE, Int.reduceGT, Int.reduceAdd, Int.reduceMul, Int.reduceSub, Int.reduceToNat, Nat.reducePow, Nat.reduceMul, Nat.reduceEqDiff, Int.reduceBEq, or_self, and_false, false_and, false_or, or_false, Bool.and_true, Bool.true_and, Bool.and_false, Bool.false_and, Bool.and_self, List.length_append, dAbs_i, Int.cast_ofNat_Int, beq_self_eq_true, String.reduceBEq, zip_l, zip_t, walk_l, walk_t, items_l, items_t, dLen_l, dLen_t, dTuple_l, dTuple_t, dList_l, dList_t, dInt_i, dSl_l, dSl_t, dIsNot_b]
      exact he
    | cons i is2 => cases hr
/-! ### _law_changed -/
theorem sem_changed : ∀ ds d, ds.length = 3 → mf__law_changed ds = some d → sm__law_changed (env0 N__law_changed ds) (rets d) := by
  intro ds d hl hm
  obtain ⟨n, p, i, rfl⟩ := len3 hl
  clear hl
  unfold mf__law_changed at hm
  cases p <;> try cases hm
  cases i <;> try cases hm
  rename_i p i
  simp only at hm
  cases hn : asTup n with
  | none => simp only [hn] at hm; cases hm
  | some ns =>
    simp only [hn] at hm
    by_cases hc : 0 ≤ p ∧ ns.length ≤ 10
    · rw [if_pos hc] at hm
      cases hm
      obtain ⟨q, rfl⟩ : ∃ q : Nat, p = (q : Int) := ⟨p.toNat, by omega⟩
      rw [asTup_inv hn]
      unfold sm__law_changed
      simp only [N__law_changed, env0, List.map_cons, List.map_nil, List.length_cons, List.length_nil, Nat.reduceAdd, Nat.reduceSub, List.replicate_zero, List.cons_append, List.nil_append]
      have z1 : 1 ≤ sizeLine := line_small (by decide)
      have a1 := tup_add (ns.take q) [i] (by rw [List.length_take]; simp; omega)
      have a2 := tup_add (ns.take q ++ [i]) (ns.drop (q + 1)) (by rw [List.length_append, List.length_take, List.length_drop]; simp; omega)
      have ti : (PyData.tuple [.int i] : D) = tupI [i] := rfl
      simp only [eC_ap, eV_ap, eB_ap, eU_ap, eAnd_ap, eOr_ap, tE_ap, tAnd_ap, tOr_ap, tNot_ap, eIf_ap, eCh_ap, eA0_ap, eAc_ap, eAs_ap, eTup_ap, eLs_ap, eOfL_ap, eIxO_ap, eP0_ap, ePs_ap, eSl_ap, iW_ap, iR1_ap, iR2_ap, iZp_ap, gN_ap, gNilD_ap, gConsD_ap, gTupD_ap, cYes_ap, sNil_ap, sSeq_ap, sIf_ap, sRet_ap, sRetN_ap, sSet_ap, sSetO_ap, sExp_ap, sBrk_ap, sCont_ap, sApp_ap, ePop_ap, sPut_ap, eCall_ap, eCallO_ap, eLenO_ap, sDk0_ap, sDput_ap, eSrtDk_ap, eDget_ap, eDin_ap, eRevO_ap, eLenS_ap, eIxS_ap, iSq_ap, nSeq_ap, nRet_ap, sDraws_ap, sAug_ap, sPar_ap, unE, reE, keepF, dIs, dNot, dNeg, dIsT, isTy, tyOf, rets, retsO, List.getElem?_cons_zero, List.getElem?_cons_succ, List.set_cons_zero, List.set_cons_succ, List.length_cons, List.length_nil, List.length_map, List.length_set, Nat.reduceAdd, Nat.reduceSub, Nat.reduceLT, Nat.reduceLeDiff, dAdd_i, dAdd_l, dAdd_t, dSub_i, dMul_i, dDiv_i, dModI_i, dLt_i, dLe_i, dGt_i, dGe_i, dEq_i, dNe_i, dEq_b, dNe_b, if_true, if_false, decide_true, decide_false, Bool.false_eq_true, Bool.not_true, Bool.not_false, and_true, true_and, and_self, or_true, true_or, reduceIte, Int.reduceNeg, Int.reducePow, Int.reduceLT, Int.reduceLE, Int.reduceGT, Int.reduceAdd, Int.reduceMul, Int.reduceSub, Int.reduceToNat, Nat.reducePow, Nat.reduceMul, Nat.reduceEqDiff, Int.reduceBEq, or_self, and_false, false_and, false_or, or_false, Bool.and_true, Bool.true_and, Bool.and_false, Bool.false_and, Bool.and_self, List.length_append, dAbs_i, Int.cast_ofNat_Int, beq_self_eq_true, String.reduceBEq, zip_l, zip_t, walk_l, walk_t, items_l, items_t, dLen_l, dLen_t, dTuple_l, dTuple_t, dList_l, dList_t, dInt_i, dSl_l, dSl_t, dIsNot_b, tup_take, tup_drop1, z1, ti, a1, a2, Int.toNat_natCast]
    · rw [if_neg hc] at hm
      cases hm
end K92

namespace K92
open PySem PySem.Spec PyProof.Rows L2 GxR DL
/-! ### _law_numbers -/
theorem items_row (A x1 x2 x3 : SV) (row : List Int) (hl : row.length ≤ 10) : ∀ is : List Int, cLoop [5] (gN 5) cYes (eB dAdd (eV 4) (eTup (eAc (eV 5) eA0))) (is.map .int) [A, x1, x2, x3, .fz (tupI row), .un] = some ((is.map fun i => tupI (row ++ [i])), [A, x1, x2, x3, .fz (tupI row), .un])
  | [] => rfl
  | i :: is => by
    have ih := items_row A x1 x2 x3 row hl is
    have z1 : 1 ≤ sizeLine := line_small (by decide)
    have ti : (PyData.tuple [.int i] : D) = tupI [i] := rfl
    have a1 := tup_add row [i] (by simp; omega)
    rw [List.map_cons, cLoop]
    simp only [eC_ap, eV_ap, eB_ap, eU_ap, eAnd_ap, eOr_ap, tE_ap, tAnd_ap, tOr_ap, tNot_ap, eIf_ap, eCh_ap, eA0_ap, eAc_ap, eAs_ap, eTup_ap, eLs_ap, eOfL_ap, eIxO_ap, eP0_ap, ePs_ap, eSl_ap, iW_ap, iR1_ap, iR2_ap, iZp_ap, gN_ap, gNilD_ap, gConsD_ap, gTupD_ap, cYes_ap, sNil_ap, sSeq_ap, sIf_ap, sRet_ap, sRetN_ap, sSet_ap, sSetO_ap, sExp_ap, sBrk_ap, sCont_ap, sApp_ap, ePop_ap, sPut_ap, eCall_ap, eCallO_ap, eLenO_ap, sDk0_ap, sDput_ap, eSrtDk_ap, eDget_ap, eDin_ap, eRevO_ap, eLenS_ap, eIxS_ap, iSq_ap, nSeq_ap, nRet_ap, sDraws_ap, sAug_ap, sPar_ap, unE, reE, keepF, dIs, dNot, dNeg, dIsT, isTy, tyOf, rets, retsO, List.getElem?_cons_zero, List.getElem?_cons_succ, List.set_cons_zero, List.set_cons_succ, List.length_cons, List.length_nil, List.length_map, List.length_set, Nat.reduceAdd, Nat.reduceSub, Nat.reduceLT, Nat.reduceLeDiff, dAdd_i, dAdd_l, dAdd_t, dSub_i, dMul_i, dDiv_i, dModI_i, dLt_i, dLe_i, dGt_i, dGe_i, dEq_i, dNe_i, dEq_b, dNe_b, if_true, if_false, decide_true, decide_false, Bool.false_eq_true, Bool.not_true, Bool.not_false, and_true, true_and, and_self, or_true, true_or, reduceIte, Int.reduceNeg, Int.reducePow, Int.reduceLT, Int.reduceLE, Int.reduceGT, Int.reduceAdd, Int.reduceMul, Int.reduceSub, Int.reduceToNat, Nat.reducePow, Nat.reduceMul, Nat.reduceEqDiff, Int.reduceBEq, or_self, and_false, false_and, false_or, or_false, Bool.and_true, Bool.true_and, Bool.and_false, Bool.false_and, Bool.and_self, List.length_append, dAbs_i, Int.cast_ofNat_Int, beq_self_eq_true, String.reduceBEq, zip_l, zip_t, walk_l, walk_t, items_l, items_t, dLen_l, dLen_t, dTuple_l, dTuple_t, dList_l, dList_t, dInt_i, dSl_l, dSl_t, dIsNot_b, z1, ti, a1, ih, List.map_cons]
theorem rows_len : ∀ n, (rowsOf n).length = 10 ^ n
  | 0 => rfl
  | n + 1 => by
    rw [rowsOf, List.length_flatMap]
    have : (List.map (fun row => (List.map (fun i => row ++ [i]) digits).length) (rowsOf n)) = List.replicate (rowsOf n).length 10 := by
      rw [List.eq_replicate_iff]
      refine ⟨by simp, fun b hb => ?_⟩
      obtain ⟨r, _, rfl⟩ := List.mem_map.mp hb
      simp [digits]
    rw [this, List.sum_replicate_nat, rows_len n, Nat.pow_succ]
theorem rows_mem : ∀ {n : Nat} {row : List Int}, row ∈ rowsOf n ↔ row.length = n ∧ ∀ x ∈ row, x ∈ digits
  | 0, row => by
    rw [rowsOf, List.mem_singleton]
    refine ⟨fun h => by subst h; simp, fun h => List.eq_nil_of_length_eq_zero h.1⟩
  | n + 1, row => by
    rw [rowsOf, List.mem_flatMap]
    refine ⟨fun ⟨r, hr, h⟩ => ?_, fun ⟨h1, h2⟩ => ?_⟩
    · obtain ⟨i, hi, rfl⟩ := List.mem_map.mp h
      obtain ⟨g1, g2⟩ := rows_mem.mp hr
      refine ⟨by rw [List.length_append, g1]; rfl, fun x hx => ?_⟩
      rcases List.mem_append.mp hx with hx | hx
      · exact g2 x hx
      · rw [List.mem_singleton.mp hx]; exact hi
    · have hne : row ≠ [] := fun z => by subst z; cases h1
      refine ⟨row.dropLast, rows_mem.mpr ⟨by rw [List.length_dropLast, h1]; rfl, fun x hx => h2 x ((List.dropLast_sublist row).subset hx)⟩, ?_⟩
      exact List.mem_map.mpr ⟨row.getLast hne, h2 _ (List.getLast_mem hne), List.dropLast_concat_getLast hne⟩
theorem dig_digits {x : Int} : x ∈ digits ↔ 0 ≤ x ∧ x ≤ 9 := by
  refine ⟨fun h => digits_small x h, fun ⟨h1, h2⟩ => ?_⟩
  unfold digits
  simp only [List.mem_cons, List.not_mem_nil, or_false]
  omega
theorem rows_dig {n : Nat} {row : List Int} (h : row ∈ rowsOf n) : row.length = n ∧ dig row = true := by
  obtain ⟨h1, h2⟩ := rows_mem.mp h
  refine ⟨h1, List.all_eq_true.mpr fun x hx => ?_⟩
  have := digits_small x (h2 x hx)
  simp [this]
theorem filter_loop (ws : List Int) (b : Int) (x1 x2 x3 x5 : SV) (hb : 0 < b) (h10 : ws.length ≤ 10) : ∀ rs : List (List Int), (∀ r ∈ rs, r.length = ws.length ∧ dig r = true) →
    cLoop [4] (gN 4) (tE (eCall mf__law_right (eAc (eV 0) (eAc (eV 4) eA0)))) (eV 4) (rs.map tupI) [.fz (sch ws b), x1, x2, x3, .un, x5] = some ((rs.filter (R ws b)).map tupI, [.fz (sch ws b), x1, x2, x3, .un, x5])
  | [], _ => rfl
  | r :: rs, h => by
    have ih := filter_loop ws b x1 x2 x3 x5 hb h10 rs fun q hq => h q (List.mem_cons_of_mem _ hq)
    have hr : mf__law_right [sch ws b, tupI r] = some (.bool (R ws b r)) := right_eq hb (h r List.mem_cons_self).1 h10 (h r List.mem_cons_self).2
    rw [List.map_cons, cLoop]
    simp only [eC_ap, eV_ap, eB_ap, eU_ap, eAnd_ap, eOr_ap, tE_ap, tAnd_ap, tOr_ap, tNot_ap, eIf_ap, eCh_ap, eA0_ap, eAc_ap, eAs_ap, eTup_ap, eLs_ap, eOfL_ap, eIxO_ap, eP0_ap, ePs_ap, eSl_ap, iW_ap, iR1_ap, iR2_ap, iZp_ap, gN_ap, gNilD_ap, gConsD_ap, gTupD_ap, cYes_ap, sNil_ap, sSeq_ap, sIf_ap, sRet_ap, sRetN_ap, sSet_ap, sSetO_ap, sExp_ap, sBrk_ap, sCont_ap, sApp_ap, ePop_ap, sPut_ap, eCall_ap, eCallO_ap, eLenO_ap, sDk0_ap, sDput_ap, eSrtDk_ap, eDget_ap, eDin_ap, eRevO_ap, eLenS_ap, eIxS_ap, iSq_ap, nSeq_ap, nRet_ap, sDraws_ap, sAug_ap, sPar_ap, unE, reE, keepF, dIs, dNot, dNeg, dIsT, isTy, tyOf, rets, retsO, List.getElem?_cons_zero, List.getElem?_cons_succ, List.set_cons_zero, List.set_cons_succ, List.length_cons, List.length_nil, List.length_map, List.length_set, Nat.reduceAdd, Nat.reduceSub, Nat.reduceLT, Nat.reduceLeDiff, dAdd_i, dAdd_l, dAdd_t, dSub_i, dMul_i, dDiv_i, dModI_i, dLt_i, dLe_i, dGt_i, dGe_i, dEq_i, dNe_i, dEq_b, dNe_b, if_true, if_false, decide_true, decide_false, Bool.false_eq_true, Bool.not_true, Bool.not_false, and_true, true_and, and_self, or_true, true_or, reduceIte, Int.reduceNeg, Int.reducePow, Int.reduceLT, Int.reduceLE, Int.reduceGT, Int.reduceAdd, Int.reduceMul, Int.reduceSub, Int.reduceToNat, Nat.reducePow, Nat.reduceMul, Nat.reduceEqDiff, Int.reduceBEq, or_self, and_false, false_and, false_or, or_false, Bool.and_true, Bool.true_and, Bool.and_false, Bool.false_and, Bool.and_self, List.length_append, dAbs_i, Int.cast_ofNat_Int, beq_self_eq_true, String.reduceBEq, zip_l, zip_t, walk_l, walk_t, items_l, items_t, dLen_l, dLen_t, dTuple_l, dTuple_t, dList_l, dList_t, dInt_i, dSl_l, dSl_t, dIsNot_b, hr]
    cases hR : R ws b r
    · simp only [ih, List.filter_cons, hR, eC_ap, eV_ap, eB_ap, eU_ap, eAnd_ap, eOr_ap, tE_ap, tAnd_ap, tOr_ap, tNot_ap, eIf_ap, eCh_ap, eA0_ap, eAc_ap, eAs_ap, eTup_ap, eLs_ap, eOfL_ap, eIxO_ap, eP0_ap, ePs_ap, eSl_ap, iW_ap, iR1_ap, iR2_ap, iZp_ap, gN_ap, gNilD_ap, gConsD_ap, gTupD_ap, cYes_ap, sNil_ap, sSeq_ap, sIf_ap, sRet_ap, sRetN_ap, sSet_ap, sSetO_ap, sExp_ap, sBrk_ap, sCont_ap, sApp_ap, ePop_ap, sPut_ap, eCall_ap, eCallO_ap, eLenO_ap, sDk0_ap, sDput_ap, eSrtDk_ap, eDget_ap, eDin_ap, eRevO_ap, eLenS_ap, eIxS_ap, iSq_ap, nSeq_ap, nRet_ap, sDraws_ap, sAug_ap, sPar_ap, unE, reE, keepF, dIs, dNot, dNeg, dIsT, isTy, tyOf, rets, retsO, List.getElem?_cons_zero, List.getElem?_cons_succ, List.set_cons_zero, List.set_cons_succ, List.length_cons, List.length_nil, List.length_map, List.length_set, Nat.reduceAdd, Nat.reduceSub, Nat.reduceLT, Nat.reduceLeDiff, dAdd_i, dAdd_l, dAdd_t, dSub_i, dMul_i, dDiv_i, dModI_i, dLt_i, dLe_i, dGt_i, dGe_i, dEq_i, dNe_i, dEq_b, dNe_b, if_true, if_false, decide_true, decide_false, Bool.false_eq_true, Bool.not_true, Bool.not_false, and_true, true_and, and_self, or_true, true_or, reduceIte, Int.reduceNeg, Int.reducePow, Int.reduceLT, Int.reduceLE, Int.reduceGT, Int.reduceAdd, Int.reduceMul, Int.reduceSub, Int.reduceToNat, Nat.reducePow, Nat.reduceMul, Nat.reduceEqDiff, Int.reduceBEq, or_self, and_false, false_and, false_or, or_false, Bool.and_true, Bool.true_and, Bool.and_false, Bool.false_and, Bool.and_self, List.length_append, dAbs_i, Int.cast_ofNat_Int, beq_self_eq_true, String.reduceBEq, zip_l, zip_t, walk_l, walk_t, items_l, items_t, dLen_l, dLen_t, dTuple_l, dTuple_t, dList_l, dList_t, dInt_i, dSl_l, dSl_t, dIsNot_b]
    · simp only [ih, List.filter_cons, hR, eC_ap, eV_ap, eB_ap, eU_ap, eAnd_ap, eOr_ap, tE_ap, tAnd_ap, tOr_ap, tNot_ap, eIf_ap, eCh_ap, eA0_ap, eAc_ap, eAs_ap, eTup_ap, eLs_ap, eOfL_ap, eIxO_ap, eP0_ap, ePs_ap, eSl_ap, iW_ap, iR1_ap, iR2_ap, iZp_ap, gN_ap, gNilD_ap, gConsD_ap, gTupD_ap, cYes_ap, sNil_ap, sSeq_ap, sIf_ap, sRet_ap, sRetN_ap, sSet_ap, sSetO_ap, sExp_ap, sBrk_ap, sCont_ap, sApp_ap, ePop_ap, sPut_ap, eCall_ap, eCallO_ap, eLenO_ap, sDk0_ap, sDput_ap, eSrtDk_ap, eDget_ap, eDin_ap, eRevO_ap, eLenS_ap, eIxS_ap, iSq_ap, nSeq_ap, nRet_ap, sDraws_ap, sAug_ap, sPar_ap, unE, reE, keepF, dIs, dNot, dNeg, dIsT, isTy, tyOf, rets, retsO, List.getElem?_cons_zero, List.getElem?_cons_succ, List.set_cons_zero, List.set_cons_succ, List.length_cons, List.length_nil, List.length_map, List.length_set, Nat.reduceAdd, Nat.reduceSub, Nat.reduceLT, Nat.reduceLeDiff, dAdd_i, dAdd_l, dAdd_t, dSub_i, dMul_i, dDiv_i, dModI_i, dLt_i, dLe_i, dGt_i, dGe_i, dEq_i, dNe_i, dEq_b, dNe_b, if_true, if_false, decide_true, decide_false, Bool.false_eq_true, Bool.not_true, Bool.not_false, and_true, true_and, and_self, or_true, true_or, reduceIte, Int.reduceNeg, Int.reducePow, Int.reduceLT, Int.reduceLE, Int.reduceGT, Int.reduceAdd, Int.reduceMul, Int.reduceSub, Int.reduceToNat, Nat.reducePow, Nat.reduceMul, Nat.reduceEqDiff, Int.reduceBEq, or_self, and_false, false_and, false_or, or_false, Bool.and_true, Bool.true_and, Bool.and_false, Bool.false_and, Bool.and_self, List.length_append, dAbs_i, Int.cast_ofNat_Int, beq_self_eq_true, String.reduceBEq, zip_l, zip_t, walk_l, walk_t, items_l, items_t, dLen_l, dLen_t, dTuple_l, dTuple_t, dList_l, dList_t, dInt_i, dSl_l, dSl_t, dIsNot_b, List.map_cons]
theorem numbers_inv {s d : D} (h : mf__law_numbers [s] = some d) : ∃ ws b, s = sch ws b ∧ 0 < b ∧ ws.length ≤ 3 ∧ d = .list (((rowsOf ws.length).filter (R ws b)).map tupI) := by
  unfold mf__law_numbers at h
  cases hs : asSch s with
  | none => simp only [hs] at h; cases h
  | some wb =>
    obtain ⟨ws, b⟩ := wb
    simp only [hs] at h
    by_cases hc : 0 < b ∧ ws.length ≤ 3
    · rw [if_pos hc] at h
      exact ⟨ws, b, asSch_inv hs, hc.1, hc.2, (Option.some.inj h).symm⟩
    · rw [if_neg hc] at h
      cases h
theorem len_flat (rs : List (List Int)) : (rs.flatMap fun row => digits.map fun i => row ++ [i]).length = 10 * rs.length := by
  induction rs with
  | nil => rfl
  | cons r rs ih =>
    rw [List.flatMap_cons, List.length_append, ih, List.length_cons, List.length_map]
    have : digits.length = 10 := rfl
    omega
theorem map_tup (row : List Int) : (digits.map fun i => tupI (row ++ [i])) = (digits.map fun i => row ++ [i]).map tupI := by rw [List.map_map]; rfl
theorem sem_numbers : ∀ ds d, ds.length = 1 → mf__law_numbers ds = some d → sm__law_numbers (env0 N__law_numbers ds) (rets d) := by
  intro ds d hl hm
  obtain ⟨s, rfl⟩ := len1 hl
  clear hl
  have hinv := numbers_inv hm
  clear hm
  obtain ⟨ws, b, e1, hb, h3, e2⟩ := hinv
  subst e1 e2
  unfold sm__law_numbers
  simp only [N__law_numbers, env0, List.map_cons, List.map_nil, List.length_cons, List.length_nil, Nat.reduceAdd, Nat.reduceSub, List.replicate_succ, List.replicate_zero, List.cons_append, List.nil_append]
  have z0 : 0 ≤ sizeLine := Nat.zero_le _
  have z1 : 1 ≤ sizeLine := line_small (by decide)
  have hz : ws.length ≤ 10 := by omega
  have hs : small62 (ws.length : Int) = true := small_10 hz
  have t0 : (PyData.list [.tuple []] : D) = .list ((rowsOf 0).map tupI) := rfl
  simp only [eC_ap, eV_ap, eB_ap, eU_ap, eAnd_ap, eOr_ap, tE_ap, tAnd_ap, tOr_ap, tNot_ap, eIf_ap, eCh_ap, eA0_ap, eAc_ap, eAs_ap, eTup_ap, eLs_ap, eOfL_ap, eIxO_ap, eP0_ap, ePs_ap, eSl_ap, iW_ap, iR1_ap, iR2_ap, iZp_ap, gN_ap, gNilD_ap, gConsD_ap, gTupD_ap, cYes_ap, sNil_ap, sSeq_ap, sIf_ap, sRet_ap, sRetN_ap, sSet_ap, sSetO_ap, sExp_ap, sBrk_ap, sCont_ap, sApp_ap, ePop_ap, sPut_ap, eCall_ap, eCallO_ap, eLenO_ap, sDk0_ap, sDput_ap, eSrtDk_ap, eDget_ap, eDin_ap, eRevO_ap, eLenS_ap, eIxS_ap, iSq_ap, nSeq_ap, nRet_ap, sDraws_ap, sAug_ap, sPar_ap, unE, reE, keepF, dIs, dNot, dNeg, dIsT, isTy, tyOf, rets, retsO, List.getElem?_cons_zero, List.getElem?_cons_succ, List.set_cons_zero, List.set_cons_succ, List.length_cons, List.length_nil, List.length_map, List.length_set, Nat.reduceAdd, Nat.reduceSub, Nat.reduceLT, Nat.reduceLeDiff, dAdd_i, dAdd_l, dAdd_t, dSub_i, dMul_i, dDiv_i, dModI_i, dLt_i, dLe_i, dGt_i, dGe_i, dEq_i, dNe_i, dEq_b, dNe_b, if_true, if_false, decide_true, decide_false, Bool.false_eq_true, Bool.not_true, Bool.not_false, and_true, true_and, and_self, or_true, true_or, reduceIte, Int.reduceNeg, Int.reducePow, Int.reduceLT, Int.reduceLE, Int.reduceGT, Int.reduceAdd, Int.reduceMul, Int.reduceSub, Int.reduceToNat, Nat.reducePow, Nat.reduceMul, Nat.reduceEqDiff, Int.reduceBEq, or_self, and_false, false_and, false_or, or_false, Bool.and_true, Bool.true_and, Bool.and_false, Bool.false_and, Bool.and_self, List.length_append, dAbs_i, Int.cast_ofNat_Int, beq_self_eq_true, String.reduceBEq, zip_l, zip_t, walk_l, walk_t, items_l, items_t, dLen_l, dLen_t, dTuple_l, dTuple_t, dList_l, dList_t, dInt_i, dSl_l, dSl_t, dIsNot_b, z0, z1, t0]
  rw [sFor_ap]
  simp only [eC_ap, eV_ap, eB_ap, eU_ap, eAnd_ap, eOr_ap, tE_ap, tAnd_ap, tOr_ap, tNot_ap, eIf_ap, eCh_ap, eA0_ap, eAc_ap, eAs_ap, eTup_ap, eLs_ap, eOfL_ap, eIxO_ap, eP0_ap, ePs_ap, eSl_ap, iW_ap, iR1_ap, iR2_ap, iZp_ap, gN_ap, gNilD_ap, gConsD_ap, gTupD_ap, cYes_ap, sNil_ap, sSeq_ap, sIf_ap, sRet_ap, sRetN_ap, sSet_ap, sSetO_ap, sExp_ap, sBrk_ap, sCont_ap, sApp_ap, ePop_ap, sPut_ap, eCall_ap, eCallO_ap, eLenO_ap, sDk0_ap, sDput_ap, eSrtDk_ap, eDget_ap, eDin_ap, eRevO_ap, eLenS_ap, eIxS_ap, iSq_ap, nSeq_ap, nRet_ap, sDraws_ap, sAug_ap, sPar_ap, unE, reE, keepF, dIs, dNot, dNeg, dIsT, isTy, tyOf, rets, retsO, List.getElem?_cons_zero, List.getElem?_cons_succ, List.set_cons_zero, List.set_cons_succ, List.length_cons, List.length_nil, List.length_map, List.length_set, Nat.reduceAdd, Nat.reduceSub, Nat.reduceLT, Nat.reduceLeDiff, dAdd_i, dAdd_l, dAdd_t, dSub_i, dMul_i, dDiv_i, dModI_i, dLt_i, dLe_i, dGt_i, dGe_i, dEq_i, dNe_i, dEq_b, dNe_b, if_true, if_false, decide_true, decide_false, Bool.false_eq_true, Bool.not_true, Bool.not_false, and_true, true_and, and_self, or_true, true_or, reduceIte, Int.reduceNeg, Int.reducePow, Int.reduceLT, Int.reduceLE, Int.reduceGT, Int.reduceAdd, Int.reduceMul, Int.reduceSub, Int.reduceToNat, Nat.reducePow, Nat.reduceMul, Nat.reduceEqDiff, Int.reduceBEq, or_self, and_false, false_and, false_or, or_false, Bool.and_true, Bool.true_and, Bool.and_false, Bool.false_and, Bool.and_self, List.length_append, dAbs_i, Int.cast_ofNat_Int, beq_self_eq_true, String.reduceBEq, zip_l, zip_t, walk_l, walk_t, items_l, items_t, dLen_l, dLen_t, dTuple_l, dTuple_t, dList_l, dList_t, dInt_i, dSl_l, dSl_t, dIsNot_b, sch0, len_tup, hs]
  refine wFor_inv (fun r env => ∃ (k : Nat) (x2 x3 x4 : SV), k ≤ ws.length ∧ r = rng (k : Int) (ws.length : Int) ∧ env = [.fz (sch ws b), .fz (.list ((rowsOf k).map tupI)), x2, x3, x4, .un]) ?_ ?_ _ _ ⟨0, .un, .un, .un, Nat.zero_le _, rfl, rfl⟩
  · rintro d r env ⟨k, x2, x3, x4, hk, hr, rfl⟩ K hK
    rw [rng_step] at hr
    split at hr
    · rename_i hlt
      obtain ⟨g1, g2⟩ := List.cons.inj hr
      subst g1 g2
      refine ⟨_, rfl, ?_⟩
      simp only [eC_ap, eV_ap, eB_ap, eU_ap, eAnd_ap, eOr_ap, tE_ap, tAnd_ap, tOr_ap, tNot_ap, eIf_ap, eCh_ap, eA0_ap, eAc_ap, eAs_ap, eTup_ap, eLs_ap, eOfL_ap, eIxO_ap, eP0_ap, ePs_ap, eSl_ap, iW_ap, iR1_ap, iR2_ap, iZp_ap, gN_ap, gNilD_ap, gConsD_ap, gTupD_ap, cYes_ap, sNil_ap, sSeq_ap, sIf_ap, sRet_ap, sRetN_ap, sSet_ap, sSetO_ap, sExp_ap, sBrk_ap, sCont_ap, sApp_ap, ePop_ap, sPut_ap, eCall_ap, eCallO_ap, eLenO_ap, sDk0_ap, sDput_ap, eSrtDk_ap, eDget_ap, eDin_ap, eRevO_ap, eLenS_ap, eIxS_ap, iSq_ap, nSeq_ap, nRet_ap, sDraws_ap, sAug_ap, sPar_ap, unE, reE, keepF, dIs, dNot, dNeg, dIsT, isTy, tyOf, rets, retsO, List.getElem?_cons_zero, List.getElem?_cons_succ, List.set_cons_zero, List.set_cons_succ, List.length_cons, List.length_nil, List.length_map, List.length_set, Nat.reduceAdd, Nat.reduceSub, Nat.reduceLT, Nat.reduceLeDiff, dAdd_i, dAdd_l, dAdd_t, dSub_i, dMul_i, dDiv_i, dModI_i, dLt_i, dLe_i, dGt_i, dGe_i, dEq_i, dNe_i, dEq_b, dNe_b, if_true, if_false, decide_true, decide_false, Bool.false_eq_true, Bool.not_true, Bool.not_false, and_true, true_and, and_self, or_true, true_or, reduceIte, Int.reduceNeg, Int.reducePow, Int.reduceLT, Int.reduceLE, Int.reduceGT, Int.reduceAdd, Int.reduceMul, Int.reduceSub, Int.reduceToNat, Nat.reducePow, Nat.reduceMul, Nat.reduceEqDiff, Int.reduceBEq, or_self, and_false, false_and, false_or, or_false, Bool.and_true, Bool.true_and, Bool.and_false, Bool.false_and, Bool.and_self, List.length_append, dAbs_i, Int.cast_ofNat_Int, beq_self_eq_true, String.reduceBEq, zip_l, zip_t, walk_l, walk_t, items_l, items_t, dLen_l, dLen_t, dTuple_l, dTuple_t, dList_l, dList_t, dInt_i, dSl_l, dSl_t, dIsNot_b, z0]
      rw [sFor_ap]
      simp only [eC_ap, eV_ap, eB_ap, eU_ap, eAnd_ap, eOr_ap, tE_ap, tAnd_ap, tOr_ap, tNot_ap, eIf_ap, eCh_ap, eA0_ap, eAc_ap, eAs_ap, eTup_ap, eLs_ap, eOfL_ap, eIxO_ap, eP0_ap, ePs_ap, eSl_ap, iW_ap, iR1_ap, iR2_ap, iZp_ap, gN_ap, gNilD_ap, gConsD_ap, gTupD_ap, cYes_ap, sNil_ap, sSeq_ap, sIf_ap, sRet_ap, sRetN_ap, sSet_ap, sSetO_ap, sExp_ap, sBrk_ap, sCont_ap, sApp_ap, ePop_ap, sPut_ap, eCall_ap, eCallO_ap, eLenO_ap, sDk0_ap, sDput_ap, eSrtDk_ap, eDget_ap, eDin_ap, eRevO_ap, eLenS_ap, eIxS_ap, iSq_ap, nSeq_ap, nRet_ap, sDraws_ap, sAug_ap, sPar_ap, unE, reE, keepF, dIs, dNot, dNeg, dIsT, isTy, tyOf, rets, retsO, List.getElem?_cons_zero, List.getElem?_cons_succ, List.set_cons_zero, List.set_cons_succ, List.length_cons, List.length_nil, List.length_map, List.length_set, Nat.reduceAdd, Nat.reduceSub, Nat.reduceLT, Nat.reduceLeDiff, dAdd_i, dAdd_l, dAdd_t, dSub_i, dMul_i, dDiv_i, dModI_i, dLt_i, dLe_i, dGt_i, dGe_i, dEq_i, dNe_i, dEq_b, dNe_b, if_true, if_false, decide_true, decide_false, Bool.false_eq_true, Bool.not_true, Bool.not_false, and_true, true_and, and_self, or_true, true_or, reduceIte, Int.reduceNeg, Int.reducePow, Int.reduceLT, Int.reduceLE, Int.reduceGT, Int.reduceAdd, Int.reduceMul, Int.reduceSub, Int.reduceToNat, Nat.reducePow, Nat.reduceMul, Nat.reduceEqDiff, Int.reduceBEq, or_self, and_false, false_and, false_or, or_false, Bool.and_true, Bool.true_and, Bool.and_false, Bool.false_and, Bool.and_self, List.length_append, dAbs_i, Int.cast_ofNat_Int, beq_self_eq_true, String.reduceBEq, zip_l, zip_t, walk_l, walk_t, items_l, items_t, dLen_l, dLen_t, dTuple_l, dTuple_t, dList_l, dList_t, dInt_i, dSl_l, dSl_t, dIsNot_b]
      have hlen := rows_len k
      have hpow : 10 ^ k ≤ 100 := by
        have : k = 0 ∨ k = 1 ∨ k = 2 := by omega
        rcases this with rfl | rfl | rfl <;> decide
      refine wFor_inv (fun r env => ∃ (done todo : List (List Int)) (x4 : SV), r = todo.map tupI ∧ rowsOf k = done ++ todo ∧ env = [.fz (sch ws b), .fz (.list ((rowsOf k).map tupI)), .fz (.int (k : Int)), .fz (.list ((done.flatMap fun row => digits.map fun i => row ++ [i]).map tupI)), x4, .un]) ?_ ?_ _ _ ⟨[], rowsOf k, x4, rfl, rfl, rfl⟩
      · rintro d r env ⟨done, todo, x4, hr, hdt, rfl⟩ K2 hK2
        cases todo with
        | nil => cases hr
        | cons row todo2 =>
          rw [List.map_cons] at hr
          obtain ⟨g1, g2⟩ := List.cons.inj hr
          subst g1 g2
          refine ⟨_, rfl, ?_⟩
          have hrow : row ∈ rowsOf k := by rw [hdt]; simp
          have hrl := (rows_dig hrow).1
          have hdl : done.length ≤ 100 := by
            have := congrArg List.length hdt
            rw [hlen, List.length_append] at this
            omega
          have hi := items_row (.fz (sch ws b)) (.fz (.list ((rowsOf k).map tupI))) (.fz (.int (k : Int))) (.fz (.list ((done.flatMap fun row => digits.map fun i => row ++ [i]).map tupI))) row (by omega) digits
          have h10 : small62 10 = true := s62 (by decide) (by decide)
          have hl2 : (digits.map fun i => tupI (row ++ [i])).length ≤ sizeLine := line_small (by rw [List.length_map]; decide)
          have hl3 : (done.flatMap fun row => digits.map fun i => row ++ [i]).length + (digits.map fun i => tupI (row ++ [i])).length ≤ sizeLine := line_small (by
            rw [len_flat, List.length_map]
            have : digits.length = 10 := rfl
            omega)
          have hl4 : 10 ≤ sizeLine := line_small (by decide)
          have d10 : digits.length = 10 := rfl
          rw [List.length_map, d10] at hl3
          simp only [sSet_ap, eB_ap, eV_ap, eOfL_ap, cC_ap, iR1_ap, eAc_ap, eA0_ap, eC_ap, h10, if_true, eC_ap, eV_ap, eB_ap, eU_ap, eAnd_ap, eOr_ap, tE_ap, tAnd_ap, tOr_ap, tNot_ap, eIf_ap, eCh_ap, eA0_ap, eAc_ap, eAs_ap, eTup_ap, eLs_ap, eOfL_ap, eIxO_ap, eP0_ap, ePs_ap, eSl_ap, iW_ap, iR1_ap, iR2_ap, iZp_ap, gN_ap, gNilD_ap, gConsD_ap, gTupD_ap, cYes_ap, sNil_ap, sSeq_ap, sIf_ap, sRet_ap, sRetN_ap, sSet_ap, sSetO_ap, sExp_ap, sBrk_ap, sCont_ap, sApp_ap, ePop_ap, sPut_ap, eCall_ap, eCallO_ap, eLenO_ap, sDk0_ap, sDput_ap, eSrtDk_ap, eDget_ap, eDin_ap, eRevO_ap, eLenS_ap, eIxS_ap, iSq_ap, nSeq_ap, nRet_ap, sDraws_ap, sAug_ap, sPar_ap, unE, reE, keepF, dIs, dNot, dNeg, dIsT, isTy, tyOf, rets, retsO, List.getElem?_cons_zero, List.getElem?_cons_succ, List.set_cons_zero, List.set_cons_succ, List.length_cons, List.length_nil, List.length_map, List.length_set, Nat.reduceAdd, Nat.reduceSub, Nat.reduceLT, Nat.reduceLeDiff, dAdd_i, dAdd_l, dAdd_t, dSub_i, dMul_i, dDiv_i, dModI_i, dLt_i, dLe_i, dGt_i, dGe_i, dEq_i, dNe_i, dEq_b, dNe_b, if_true, if_false, decide_true, decide_false, Bool.false_eq_true, Bool.not_true, Bool.not_false, and_true, true_and, and_self, or_true, true_or, reduceIte, Int.reduceNeg, Int.reducePow, Int.reduceLT, Int.reduceLE, Int.reduceGT, Int.reduceAdd, Int.reduceMul, Int.reduceSub, Int.reduceToNat, Nat.reducePow, Nat.reduceMul, Nat.reduceEqDiff, Int.reduceBEq, or_self, and_false, false_and, false_or, or_false, Bool.and_true, Bool.true_and, Bool.and_false, Bool.false_and, Bool.and_self, List.length_append, dAbs_i, Int.cast_ofNat_Int, beq_self_eq_true, String.reduceBEq, zip_l, zip_t, walk_l, walk_t, items_l, items_t, dLen_l, dLen_t, dTuple_l, dTuple_t, dList_l, dList_t, dInt_i, dSl_l, dSl_t, dIsNot_b, rng10, hi, d10, hl4, hl3]
          refine hK2 _ ⟨done ++ [row], todo2, .fz (tupI row), rfl, by rw [hdt, List.append_assoc]; rfl, ?_⟩
          rw [List.flatMap_append, List.map_append, map_tup]
          simp
      · rintro env ⟨done, todo, x4, hr, hdt, rfl⟩
        cases todo with
        | cons row todo2 => cases hr
        | nil =>
          rw [List.append_nil] at hdt
          subst hdt
          simp only [eC_ap, eV_ap, eB_ap, eU_ap, eAnd_ap, eOr_ap, tE_ap, tAnd_ap, tOr_ap, tNot_ap, eIf_ap, eCh_ap, eA0_ap, eAc_ap, eAs_ap, eTup_ap, eLs_ap, eOfL_ap, eIxO_ap, eP0_ap, ePs_ap, eSl_ap, iW_ap, iR1_ap, iR2_ap, iZp_ap, gN_ap, gNilD_ap, gConsD_ap, gTupD_ap, cYes_ap, sNil_ap, sSeq_ap, sIf_ap, sRet_ap, sRetN_ap, sSet_ap, sSetO_ap, sExp_ap, sBrk_ap, sCont_ap, sApp_ap, ePop_ap, sPut_ap, eCall_ap, eCallO_ap, eLenO_ap, sDk0_ap, sDput_ap, eSrtDk_ap, eDget_ap, eDin_ap, eRevO_ap, eLenS_ap, eIxS_ap, iSq_ap, nSeq_ap, nRet_ap, sDraws_ap, sAug_ap, sPar_ap, unE, reE, keepF, dIs, dNot, dNeg, dIsT, isTy, tyOf, rets, retsO, List.getElem?_cons_zero, List.getElem?_cons_succ, List.set_cons_zero, List.set_cons_succ, List.length_cons, List.length_nil, List.length_map, List.length_set, Nat.reduceAdd, Nat.reduceSub, Nat.reduceLT, Nat.reduceLeDiff, dAdd_i, dAdd_l, dAdd_t, dSub_i, dMul_i, dDiv_i, dModI_i, dLt_i, dLe_i, dGt_i, dGe_i, dEq_i, dNe_i, dEq_b, dNe_b, if_true, if_false, decide_true, decide_false, Bool.false_eq_true, Bool.not_true, Bool.not_false, and_true, true_and, and_self, or_true, true_or, reduceIte, Int.reduceNeg, Int.reducePow, Int.reduceLT, Int.reduceLE, Int.reduceGT, Int.reduceAdd, Int.reduceMul, Int.reduceSub, Int.reduceToNat, Nat.reducePow, Nat.reduceMul, Nat.reduceEqDiff, Int.reduceBEq, or_self, and_false, false_and, false_or, or_false, Bool.and_true, Bool.true_and, Bool.and_false, Bool.false_and, Bool.and_self, List.length_append, dAbs_i, Int.cast_ofNat_Int, beq_self_eq_true, String.reduceBEq, zip_l, zip_t, walk_l, walk_t, items_l, items_t, dLen_l, dLen_t, dTuple_l, dTuple_t, dList_l, dList_t, dInt_i, dSl_l, dSl_t, dIsNot_b]
          exact hK _ ⟨k + 1, _, _, _, hlt, rfl, rfl⟩
    · cases hr
  · rintro env ⟨k, x2, x3, x4, hk, hr, rfl⟩
    rw [rng_step] at hr
    split at hr
    · cases hr
    · rename_i hlt
      have e : k = ws.length := by omega
      subst e
      have hf := filter_loop ws b (.fz (.list ((rowsOf ws.length).map tupI))) x2 x3 .un hb (by omega) (rowsOf ws.length) fun r hr => rows_dig hr
      have hfl : ((rowsOf ws.length).filter (R ws b)).length ≤ sizeLine := line_small (by
        have h1 := List.length_filter_le (R ws b) (rowsOf ws.length)
        rw [rows_len] at h1
        have : ws.length = 0 ∨ ws.length = 1 ∨ ws.length = 2 ∨ ws.length = 3 := by omega
        rcases this with e | e | e | e <;> rw [e] at h1 ⊢ <;> simp at h1 ⊢ <;> omega)
      simp only [sRet_ap, eOfL_ap, cC_ap, iW_ap, eC_ap, eV_ap, eB_ap, eU_ap, eAnd_ap, eOr_ap, tE_ap, tAnd_ap, tOr_ap, tNot_ap, eIf_ap, eCh_ap, eA0_ap, eAc_ap, eAs_ap, eTup_ap, eLs_ap, eOfL_ap, eIxO_ap, eP0_ap, ePs_ap, eSl_ap, iW_ap, iR1_ap, iR2_ap, iZp_ap, gN_ap, gNilD_ap, gConsD_ap, gTupD_ap, cYes_ap, sNil_ap, sSeq_ap, sIf_ap, sRet_ap, sRetN_ap, sSet_ap, sSetO_ap, sExp_ap, sBrk_ap, sCont_ap, sApp_ap, ePop_ap, sPut_ap, eCall_ap, eCallO_ap, eLenO_ap, sDk0_ap, sDput_ap, eSrtDk_ap, eDget_ap, eDin_ap, eRevO_ap, eLenS_ap, eIxS_ap, iSq_ap, nSeq_ap, nRet_ap, sDraws_ap, sAug_ap, sPar_ap, unE, reE, keepF, dIs, dNot, dNeg, dIsT, isTy, tyOf, rets, retsO, List.getElem?_cons_zero, List.getElem?_cons_succ, List.set_cons_zero, List.set_cons_succ, List.length_cons, List.length_nil, List.length_map, List.length_set, Nat.reduceAdd, Nat.reduceSub, Nat.reduceLT, Nat.reduceLeDiff, dAdd_i, dAdd_l, dAdd_t, dSub_i, dMul_i, dDiv_i, dModI_i, dLt_i, dLe_i, dGt_i, dGe_i, dEq_i, dNe_i, dEq_b, dNe_b, if_true, if_false, decide_true, decide_false, Bool.false_eq_true, Bool.not_true, Bool.not_false, and_true, true_and, and_self, or_true, true_or, reduceIte, Int.reduceNeg, Int.reducePow, Int.reduceLT, Int.reduceLE, Int.reduceGT, Int.reduceAdd, Int.reduceMul, Int.reduceSub, Int.reduceToNat, Nat.reducePow, Nat.reduceMul, Nat.reduceEqDiff, Int.reduceBEq, or_self, and_false, false_and, false_or, or_false, Bool.and_true, Bool.true_and, Bool.and_false, Bool.false_and, Bool.and_self, List.length_append, dAbs_i, Int.cast_ofNat_Int, beq_self_eq_true, String.reduceBEq, zip_l, zip_t, walk_l, walk_t, items_l, items_t, dLen_l, dLen_t, dTuple_l, dTuple_t, dList_l, dList_t, dInt_i, dSl_l, dSl_t, dIsNot_b, hf, hfl]
end K92

namespace K92
open PySem PySem.Spec PyProof.Rows L2 GxR DL
/-! ### the law, piece by piece -/
theorem pick (xs : List Int) {i : Int} (h1 : 0 ≤ i) (h2 : i < (xs.length : Int)) : ∃ v ∈ xs, dIx (.list (xs.map .int)) (.int i) = some (.int v) := by
  obtain ⟨n, rfl⟩ : ∃ n : Nat, i = (n : Int) := ⟨i.toNat, by omega⟩
  have hn : n < xs.length := by omega
  exact ⟨xs[n], List.getElem_mem hn, asI_get hn⟩
theorem pick3 (l : List Int) : ∃ v : Int, (v = 10 ∨ v = 11 ∨ v = 97) ∧ dIx (.list [.int 10, .int 11, .int 97]) (.int (tk l 3)) = some (.int v) := by
  obtain ⟨h1, h2⟩ := tk_lt l (b := 3) (by decide)
  obtain ⟨v, hv, e⟩ := pick [10, 11, 97] h1 h2
  exact ⟨v, by simpa using hv, e⟩
theorem pickW (l : List Int) : ∃ v : Int, (v = 3 ∨ v = 12 ∨ v = 96) ∧ dIx (.list [.int 3, .int 12, .int 96]) (.int (tk l 3)) = some (.int v) := by
  obtain ⟨h1, h2⟩ := tk_lt l (b := 3) (by decide)
  obtain ⟨v, hv, e⟩ := pick [3, 12, 96] h1 h2
  exact ⟨v, by simpa using hv, e⟩
theorem pick2 (c : Bool) : ∃ v : Int, (v = 2 ∨ v = 9) ∧ dIx (.list [.int 2, .int 9]) (.int (if c = true then 1 else 0)) = some (.int v) := by
  cases c
  · exact ⟨2, .inl rfl, rfl⟩
  · exact ⟨9, .inr rfl, rfl⟩
theorem pickB (a b c : Int) (l : List Int) : ∃ v : Int, (v = a ∨ v = b ∨ v = c) ∧ dIx (.list [.int a, .int b, .int c]) (.int (tk l 3)) = some (.int v) := by
  obtain ⟨h1, h2⟩ := tk_lt l (b := 3) (by decide)
  obtain ⟨v, hv, e⟩ := pick [a, b, c] h1 h2
  exact ⟨v, by simpa using hv, e⟩
theorem dInt_b {c : Bool} : dInt [.bool c] = some (.int (if c = true then 1 else 0)) := (Eq.refl _).trans (Eq.refl _)
section
variable (s0 x2 x3 x4 x5 x6 x7 x8 x9 x11 x12 x13 x14 x15 x16 x17 x18 x19 x20 x21 : SV)
theorem seg_weights : ∀ (r : List D) (l : List Int), ∃ (vs l' : List Int), vs.length = r.length ∧ (∀ v ∈ vs, 1 ≤ v ∧ v ≤ 96) ∧
    cLoop [10] (gN 10) cYes (eB dAdd (eC (.int 1)) (eCallO 1 mf__law_take (eAc (eB dIx (eOfL (eLs (eAc (eC (.int 3)) (eAc (eC (.int 12)) (eAc (eC (.int 96)) eA0))))) (eCallO 1 mf__law_take (eAc (eC (.int 3)) eA0))) eA0))) r
      [s0, .ow none (l.map .int), x2, x3, x4, x5, x6, x7, x8, x9, .un, x11, x12, x13, x14, x15, x16, x17, x18, x19, x20, x21] = some (vs.map .int, [s0, .ow none (l'.map .int), x2, x3, x4, x5, x6, x7, x8, x9, .un, x11, x12, x13, x14, x15, x16, x17, x18, x19, x20, x21])
  | [], l => ⟨[], l, rfl, by simp, rfl⟩
  | d :: r, l => by
    have t1 := take_eq l (b := 3) (by decide)
    obtain ⟨v, hv, e⟩ := pickW l
    have hv0 : 0 < v := by omega
    have t2 := take_eq l.dropLast (b := v) hv0
    have hb := tk_lt l.dropLast (b := v) hv0
    obtain ⟨vs, l', h1, h2, h3⟩ := seg_weights r l.dropLast.dropLast
    have z3 : 3 ≤ sizeLine := line_small (by decide)
    refine ⟨(1 + tk l.dropLast v) :: vs, l', by rw [List.length_cons, List.length_cons, h1], fun u hu => ?_, ?_⟩
    · rcases List.mem_cons.mp hu with rfl | hu
      · omega
      · exact h2 u hu
    · rw [cLoop]
      simp only [eC_ap, eV_ap, eB_ap, eU_ap, eAnd_ap, eOr_ap, tE_ap, tAnd_ap, tOr_ap, tNot_ap, eIf_ap, eCh_ap, eA0_ap, eAc_ap, eAs_ap, eTup_ap, eLs_ap, eOfL_ap, eIxO_ap, eP0_ap, ePs_ap, eSl_ap, iW_ap, iR1_ap, iR2_ap, iZp_ap, gN_ap, gNilD_ap, gConsD_ap, gTupD_ap, cYes_ap, sNil_ap, sSeq_ap, sIf_ap, sRet_ap, sRetN_ap, sSet_ap, sSetO_ap, sExp_ap, sBrk_ap, sCont_ap, sApp_ap, ePop_ap, sPut_ap, eCall_ap, eCallO_ap, eLenO_ap, sDk0_ap, sDput_ap, eSrtDk_ap, eDget_ap, eDin_ap, eRevO_ap, eLenS_ap, eIxS_ap, iSq_ap, nSeq_ap, nRet_ap, sDraws_ap, sAug_ap, sPar_ap, unE, reE, keepF, dIs, dNot, dNeg, dIsT, isTy, tyOf, rets, retsO, List.getElem?_cons_zero, List.getElem?_cons_succ, List.set_cons_zero, List.set_cons_succ, List.length_cons, List.length_nil, List.length_map, List.length_set, Nat.reduceAdd, Nat.reduceSub, Nat.reduceLT, Nat.reduceLeDiff, dAdd_i, dAdd_l, dAdd_t, dSub_i, dMul_i, dDiv_i, dModI_i, dLt_i, dLe_i, dGt_i, dGe_i, dEq_i, dNe_i, dEq_b, dNe_b, if_true, if_false, decide_true, decide_false, Bool.false_eq_true, Bool.not_true, Bool.not_false, and_true, true_and, and_self, or_true, true_or, reduceIte, Int.reduceNeg, Int.reducePow, Int.reduceLT, Int.reduceLE, Int.reduceGT, Int.reduceAdd, Int.reduceMul, Int.reduceSub, Int.reduceToNat, Nat.reducePow, Nat.reduceMul, Nat.reduceEqDiff, Int.reduceBEq, or_self, and_false, false_and, false_or, or_false, Bool.and_true, Bool.true_and, Bool.and_false, Bool.false_and, Bool.and_self, List.length_append, dAbs_i, Int.cast_ofNat_Int, beq_self_eq_true, String.reduceBEq, zip_l, zip_t, walk_l, walk_t, items_l, items_t, dLen_l, dLen_t, dTuple_l, dTuple_t, dList_l, dList_t, dInt_i, dSl_l, dSl_t, dIsNot_b, t1, e, t2, h3, z3, List.map_cons]
theorem seg_number : ∀ (r : List D) (l : List Int), ∃ (vs l' : List Int), vs.length = r.length ∧ dig vs = true ∧
    cLoop [10] (gN 10) cYes (eCallO 1 mf__law_take (eAc (eC (.int 10)) eA0)) r
      [s0, .ow none (l.map .int), x2, x3, x4, x5, x6, x7, x8, x9, .un, x11, x12, x13, x14, x15, x16, x17, x18, x19, x20, x21] = some (vs.map .int, [s0, .ow none (l'.map .int), x2, x3, x4, x5, x6, x7, x8, x9, .un, x11, x12, x13, x14, x15, x16, x17, x18, x19, x20, x21])
  | [], l => ⟨[], l, rfl, rfl, rfl⟩
  | d :: r, l => by
    have t1 := take_eq l (b := 10) (by decide)
    have hb := tk_lt l (b := 10) (by decide)
    obtain ⟨vs, l', h1, h2, h3⟩ := seg_number r l.dropLast
    refine ⟨tk l 10 :: vs, l', by rw [List.length_cons, List.length_cons, h1], ?_, ?_⟩
    · unfold dig at h2 ⊢
      rw [List.all_cons, h2]
      have h9 : tk l 10 ≤ 9 := by omega
      simp [hb.1, h9]
    · rw [cLoop]
      simp only [eC_ap, eV_ap, eB_ap, eU_ap, eAnd_ap, eOr_ap, tE_ap, tAnd_ap, tOr_ap, tNot_ap, eIf_ap, eCh_ap, eA0_ap, eAc_ap, eAs_ap, eTup_ap, eLs_ap, eOfL_ap, eIxO_ap, eP0_ap, ePs_ap, eSl_ap, iW_ap, iR1_ap, iR2_ap, iZp_ap, gN_ap, gNilD_ap, gConsD_ap, gTupD_ap, cYes_ap, sNil_ap, sSeq_ap, sIf_ap, sRet_ap, sRetN_ap, sSet_ap, sSetO_ap, sExp_ap, sBrk_ap, sCont_ap, sApp_ap, ePop_ap, sPut_ap, eCall_ap, eCallO_ap, eLenO_ap, sDk0_ap, sDput_ap, eSrtDk_ap, eDget_ap, eDin_ap, eRevO_ap, eLenS_ap, eIxS_ap, iSq_ap, nSeq_ap, nRet_ap, sDraws_ap, sAug_ap, sPar_ap, unE, reE, keepF, dIs, dNot, dNeg, dIsT, isTy, tyOf, rets, retsO, List.getElem?_cons_zero, List.getElem?_cons_succ, List.set_cons_zero, List.set_cons_succ, List.length_cons, List.length_nil, List.length_map, List.length_set, Nat.reduceAdd, Nat.reduceSub, Nat.reduceLT, Nat.reduceLeDiff, dAdd_i, dAdd_l, dAdd_t, dSub_i, dMul_i, dDiv_i, dModI_i, dLt_i, dLe_i, dGt_i, dGe_i, dEq_i, dNe_i, dEq_b, dNe_b, if_true, if_false, decide_true, decide_false, Bool.false_eq_true, Bool.not_true, Bool.not_false, and_true, true_and, and_self, or_true, true_or, reduceIte, Int.reduceNeg, Int.reducePow, Int.reduceLT, Int.reduceLE, Int.reduceGT, Int.reduceAdd, Int.reduceMul, Int.reduceSub, Int.reduceToNat, Nat.reducePow, Nat.reduceMul, Nat.reduceEqDiff, Int.reduceBEq, or_self, and_false, false_and, false_or, or_false, Bool.and_true, Bool.true_and, Bool.and_false, Bool.false_and, Bool.and_self, List.length_append, dAbs_i, Int.cast_ofNat_Int, beq_self_eq_true, String.reduceBEq, zip_l, zip_t, walk_l, walk_t, items_l, items_t, dLen_l, dLen_t, dTuple_l, dTuple_t, dList_l, dList_t, dInt_i, dSl_l, dSl_t, dIsNot_b, t1, h3, List.map_cons]
theorem seg_steps (b k : Int) (e : EM D) (n0 n1 n2 n3 n4 n5 n6 n7 n8 n9 n10 n11 n12 n13 n14 n15 n16 n17 n18 n20 n21 : SV)
    (hb : 0 < b) (he : ∀ s : Int, e [n0, n1, n2, .fz (.int b), n4, n5, n6, n7, n8, n9, n10, n11, n12, n13, n14, n15, n16, n17, n18, .fz (.int s), n20, n21] = some (.int k, [n0, n1, n2, .fz (.int b), n4, n5, n6, n7, n8, n9, n10, n11, n12, n13, n14, n15, n16, n17, n18, .fz (.int s), n20, n21])) :
    ∀ is : List Int, (∀ i ∈ is, 1 ≤ i ∧ i ≤ 9) → cLoop [19] (gN 19) (tE (eB dEq (eB dModI (eCall dInt (eAc (eB dMul e (eV 19)) eA0)) (eV 3)) (eC (.int 0)))) (eV 19) (is.map .int) [n0, n1, n2, .fz (.int b), n4, n5, n6, n7, n8, n9, n10, n11, n12, n13, n14, n15, n16, n17, n18, .un, n20, n21] =
      some ((is.filter fun s => k * s % b == 0).map .int, [n0, n1, n2, .fz (.int b), n4, n5, n6, n7, n8, n9, n10, n11, n12, n13, n14, n15, n16, n17, n18, .un, n20, n21])
  | [], _ => rfl
  | i :: is, h => by
    have ih := seg_steps b k e n0 n1 n2 n3 n4 n5 n6 n7 n8 n9 n10 n11 n12 n13 n14 n15 n16 n17 n18 n20 n21 hb he is fun j hj => h j (List.mem_cons_of_mem _ hj)
    have hi := h i List.mem_cons_self
    have a3 : (-18446744073709551616 : Int) < i := by omega
    have a4 : i < (18446744073709551616 : Int) := by omega
    rw [List.map_cons, cLoop]
    simp only [eC_ap, eV_ap, eB_ap, eU_ap, eAnd_ap, eOr_ap, tE_ap, tAnd_ap, tOr_ap, tNot_ap, eIf_ap, eCh_ap, eA0_ap, eAc_ap, eAs_ap, eTup_ap, eLs_ap, eOfL_ap, eIxO_ap, eP0_ap, ePs_ap, eSl_ap, iW_ap, iR1_ap, iR2_ap, iZp_ap, gN_ap, gNilD_ap, gConsD_ap, gTupD_ap, cYes_ap, sNil_ap, sSeq_ap, sIf_ap, sRet_ap, sRetN_ap, sSet_ap, sSetO_ap, sExp_ap, sBrk_ap, sCont_ap, sApp_ap, ePop_ap, sPut_ap, eCall_ap, eCallO_ap, eLenO_ap, sDk0_ap, sDput_ap, eSrtDk_ap, eDget_ap, eDin_ap, eRevO_ap, eLenS_ap, eIxS_ap, iSq_ap, nSeq_ap, nRet_ap, sDraws_ap, sAug_ap, sPar_ap, unE, reE, keepF, dIs, dNot, dNeg, dIsT, isTy, tyOf, rets, retsO, List.getElem?_cons_zero, List.getElem?_cons_succ, List.set_cons_zero, List.set_cons_succ, List.length_cons, List.length_nil, List.length_map, List.length_set, Nat.reduceAdd, Nat.reduceSub, Nat.reduceLT, Nat.reduceLeDiff, dAdd_i, dAdd_l, dAdd_t, dSub_i, dMul_i, dDiv_i, dModI_i, dLt_i, dLe_i, dGt_i, dGe_i, dEq_i, dNe_i, dEq_b, dNe_b, if_true, if_false, decide_true, decide_false, Bool.false_eq_true, Bool.not_true, Bool.not_false, and_true, true_and, and_self, or_true, true_or, reduceIte, Int.reduceNeg, Int.reducePow, Int.reduceLT, Int.reduceLE, Int.reduceGT, Int.reduceAdd, Int.reduceMul, Int.reduceSub, Int.reduceToNat, Nat.reducePow, Nat.reduceMul, Nat.reduceEqDiff, Int.reduceBEq, or_self, and_false, false_and, false_or, or_false, Bool.and_true, Bool.true_and, Bool.and_false, Bool.false_and, Bool.and_self, List.length_append, dAbs_i, Int.cast_ofNat_Int, beq_self_eq_true, String.reduceBEq, zip_l, zip_t, walk_l, walk_t, items_l, items_t, dLen_l, dLen_t, dTuple_l, dTuple_t, dList_l, dList_t, dInt_i, dSl_l, dSl_t, dIsNot_b, he, a3, a4, hb]
    rw [List.filter_cons]
    cases hR : (k * i % b == 0)
    · simp only [ih, eC_ap, eV_ap, eB_ap, eU_ap, eAnd_ap, eOr_ap, tE_ap, tAnd_ap, tOr_ap, tNot_ap, eIf_ap, eCh_ap, eA0_ap, eAc_ap, eAs_ap, eTup_ap, eLs_ap, eOfL_ap, eIxO_ap, eP0_ap, ePs_ap, eSl_ap, iW_ap, iR1_ap, iR2_ap, iZp_ap, gN_ap, gNilD_ap, gConsD_ap, gTupD_ap, cYes_ap, sNil_ap, sSeq_ap, sIf_ap, sRet_ap, sRetN_ap, sSet_ap, sSetO_ap, sExp_ap, sBrk_ap, sCont_ap, sApp_ap, ePop_ap, sPut_ap, eCall_ap, eCallO_ap, eLenO_ap, sDk0_ap, sDput_ap, eSrtDk_ap, eDget_ap, eDin_ap, eRevO_ap, eLenS_ap, eIxS_ap, iSq_ap, nSeq_ap, nRet_ap, sDraws_ap, sAug_ap, sPar_ap, unE, reE, keepF, dIs, dNot, dNeg, dIsT, isTy, tyOf, rets, retsO, List.getElem?_cons_zero, List.getElem?_cons_succ, List.set_cons_zero, List.set_cons_succ, List.length_cons, List.length_nil, List.length_map, List.length_set, Nat.reduceAdd, Nat.reduceSub, Nat.reduceLT, Nat.reduceLeDiff, dAdd_i, dAdd_l, dAdd_t, dSub_i, dMul_i, dDiv_i, dModI_i, dLt_i, dLe_i, dGt_i, dGe_i, dEq_i, dNe_i, dEq_b, dNe_b, if_true, if_false, decide_true, decide_false, Bool.false_eq_true, Bool.not_true, Bool.not_false, and_true, true_and, and_self, or_true, true_or, reduceIte, Int.reduceNeg, Int.reducePow, Int.reduceLT, Int.reduceLE, Int.reduceGT, Int.reduceAdd, Int.reduceMul, Int.reduceSub, Int.reduceToNat, Nat.reducePow, Nat.reduceMul, Nat.reduceEqDiff, Int.reduceBEq, or_self, and_false, false_and, false_or, or_false, Bool.and_true, Bool.true_and, Bool.and_false, Bool.false_and, Bool.and_self, List.length_append, dAbs_i, Int.cast_ofNat_Int, beq_self_eq_true, String.reduceBEq, zip_l, zip_t, walk_l, walk_t, items_l, items_t, dLen_l, dLen_t, dTuple_l, dTuple_t, dList_l, dList_t, dInt_i, dSl_l, dSl_t, dIsNot_b]
    · simp only [ih, eC_ap, eV_ap, eB_ap, eU_ap, eAnd_ap, eOr_ap, tE_ap, tAnd_ap, tOr_ap, tNot_ap, eIf_ap, eCh_ap, eA0_ap, eAc_ap, eAs_ap, eTup_ap, eLs_ap, eOfL_ap, eIxO_ap, eP0_ap, ePs_ap, eSl_ap, iW_ap, iR1_ap, iR2_ap, iZp_ap, gN_ap, gNilD_ap, gConsD_ap, gTupD_ap, cYes_ap, sNil_ap, sSeq_ap, sIf_ap, sRet_ap, sRetN_ap, sSet_ap, sSetO_ap, sExp_ap, sBrk_ap, sCont_ap, sApp_ap, ePop_ap, sPut_ap, eCall_ap, eCallO_ap, eLenO_ap, sDk0_ap, sDput_ap, eSrtDk_ap, eDget_ap, eDin_ap, eRevO_ap, eLenS_ap, eIxS_ap, iSq_ap, nSeq_ap, nRet_ap, sDraws_ap, sAug_ap, sPar_ap, unE, reE, keepF, dIs, dNot, dNeg, dIsT, isTy, tyOf, rets, retsO, List.getElem?_cons_zero, List.getElem?_cons_succ, List.set_cons_zero, List.set_cons_succ, List.length_cons, List.length_nil, List.length_map, List.length_set, Nat.reduceAdd, Nat.reduceSub, Nat.reduceLT, Nat.reduceLeDiff, dAdd_i, dAdd_l, dAdd_t, dSub_i, dMul_i, dDiv_i, dModI_i, dLt_i, dLe_i, dGt_i, dGe_i, dEq_i, dNe_i, dEq_b, dNe_b, if_true, if_false, decide_true, decide_false, Bool.false_eq_true, Bool.not_true, Bool.not_false, and_true, true_and, and_self, or_true, true_or, reduceIte, Int.reduceNeg, Int.reducePow, Int.reduceLT, Int.reduceLE, Int.reduceGT, Int.reduceAdd, Int.reduceMul, Int.reduceSub, Int.reduceToNat, Nat.reducePow, Nat.reduceMul, Nat.reduceEqDiff, Int.reduceBEq, or_self, and_false, false_and, false_or, or_false, Bool.and_true, Bool.true_and, Bool.and_false, Bool.false_and, Bool.and_self, List.length_append, dAbs_i, Int.cast_ofNat_Int, beq_self_eq_true, String.reduceBEq, zip_l, zip_t, walk_l, walk_t, items_l, items_t, dLen_l, dLen_t, dTuple_l, dTuple_t, dList_l, dList_t, dInt_i, dSl_l, dSl_t, dIsNot_b, List.map_cons]
end
theorem eq_nil (xs : List Int) : dEq (.list (xs.map .int)) (.list []) = some (.bool (decide (xs = []))) := by
  have h : SeqAt.shaped (.list ([] : List D)) = true := rfl
  unfold dEq
  rw [shaped_ints, h]
  cases xs <;> rfl
theorem filter_wrong (b w : Int) : decide ((steps.filter fun s => w * s % b == 0) = []) = wrongB b w := by
  unfold wrongB
  rw [Bool.eq_iff_iff, decide_eq_true_iff, List.filter_eq_nil_iff, List.all_eq_true]
  refine ⟨fun h x hx => ?_, fun h x hx => ?_⟩
  · simpa using h x hx
  · simpa using h x hx
end K92

namespace K92
open PySem PySem.Spec PyProof.Rows L2 GxR DL
abbrev EV (s0 x2 : SV) (ws : List Int) (b : Int) (l : List Int) (x7 x8 x9 x10 x11 x12 x13 x14 x15 : SV) : Ev :=
  [s0, .ow none (l.map .int), x2, .fz (.int b), .fz (.int (ws.length : Int)), .fz (sch ws b), .fz (tupI ws), x7, x8, x9, x10, x11, x12, x13, x14, x15, .un, .un, .un, .un, .un, .un]
theorem isNum_dig {x : Int} (h : 0 ≤ x ∧ x ≤ 9) : isNum (.int x) 0 9 = true := by
  unfold isNum
  simp [h]
theorem bar_good {ws ns : List Int} {b : Int} (hl : ns.length = ws.length) (hd : dig ns = true) : mf_is_bar_number [sch ws b, tupI ns] = some (.bool true) := by
  have h1 : okBar (tupI ns) = true := by
    show (ns.map PyData.int).all okItem = true
    rw [List.all_map]
    exact List.all_eq_true.mpr fun x _ => rfl
  have h2 : isBar ws.length (tupI ns) = true := by
    unfold tupI isBar
    simp only [List.length_map, hl, decide_true, Bool.true_and, List.all_map]
    exact List.all_eq_true.mpr fun x hx => isNum_dig (dig_mem hd hx)
  unfold mf_is_bar_number
  simp only [asSch_eq, h1, h2, if_true]
theorem isNot_tt : dIsNot (.bool true) (.bool true) = some (.bool false) := (Eq.refl _).trans (Eq.refl _)
theorem isNot_ff : dIsNot (.bool false) (.bool false) = some (.bool false) := (Eq.refl _).trans (Eq.refl _)
theorem neg1 : dNeg (.int 1) = some (.int (-1)) := (Eq.refl _).trans (Eq.refl _)
theorem seg_marks (ws init : List Int) (b : Int) (hb : 0 < b) (hl : init.length + 1 = ws.length) (h10 : ws.length ≤ 10) (hd : dig init = true) (ns : List Int) (hn : ns.dropLast = init)
    (n0 n1 n2 n3 n4 n6 n7 n9 n10 n11 n12 n13 n14 n15 n16 n17 n19 n20 n21 : SV) :
    ∀ is : List Int, (∀ i ∈ is, 0 ≤ i ∧ i ≤ 9) → cLoop [18] (gN 18) (tE (eCall mf__law_right (eAc (eV 5) (eAc (eB dAdd (eSl (eV 8) eP0 (ePs (eU dNeg (eC (.int 1))))) (eTup (eAc (eV 18) eA0))) eA0)))) (eV 18) (is.map .int)
      [n0, n1, n2, n3, n4, .fz (sch ws b), n6, n7, .fz (tupI ns), n9, n10, n11, n12, n13, n14, n15, n16, n17, .un, n19, n20, n21] =
      some ((is.filter fun i => R ws b (init ++ [i])).map .int, [n0, n1, n2, n3, n4, .fz (sch ws b), n6, n7, .fz (tupI ns), n9, n10, n11, n12, n13, n14, n15, n16, n17, .un, n19, n20, n21])
  | [], _ => rfl
  | i :: is, h => by
    have ih := seg_marks ws init b hb hl h10 hd ns hn n0 n1 n2 n3 n4 n6 n7 n9 n10 n11 n12 n13 n14 n15 n16 n17 n19 n20 n21 is fun j hj => h j (List.mem_cons_of_mem _ hj)
    have z1 : 1 ≤ sizeLine := line_small (by decide)
    have ti : (PyData.tuple [.int i] : D) = tupI [i] := rfl
    have ht := tup_init ns
    rw [hn] at ht
    have a1 := tup_add init [i] (by simp; omega)
    have hr : mf__law_right [sch ws b, tupI (init ++ [i])] = some (.bool (R ws b (init ++ [i]))) := right_eq hb (by rw [List.length_append]; exact hl) h10 (dig_snoc hd (h i List.mem_cons_self))
    rw [List.map_cons, cLoop]
    simp only [eC_ap, eV_ap, eB_ap, eU_ap, eAnd_ap, eOr_ap, tE_ap, tAnd_ap, tOr_ap, tNot_ap, eIf_ap, eCh_ap, eA0_ap, eAc_ap, eAs_ap, eTup_ap, eLs_ap, eOfL_ap, eIxO_ap, eP0_ap, ePs_ap, eSl_ap, iW_ap, iR1_ap, iR2_ap, iZp_ap, gN_ap, gNilD_ap, gConsD_ap, gTupD_ap, cYes_ap, sNil_ap, sSeq_ap, sIf_ap, sRet_ap, sRetN_ap, sSet_ap, sSetO_ap, sExp_ap, sBrk_ap, sCont_ap, sApp_ap, ePop_ap, sPut_ap, eCall_ap, eCallO_ap, eLenO_ap, sDk0_ap, sDput_ap, eSrtDk_ap, eDget_ap, eDin_ap, eRevO_ap, eLenS_ap, eIxS_ap, iSq_ap, nSeq_ap, nRet_ap, sDraws_ap, sAug_ap, sPar_ap, unE, reE, keepF, dIs, dNot, dNeg, dIsT, isTy, tyOf, rets, retsO, List.getElem?_cons_zero, List.getElem?_cons_succ, List.set_cons_zero, List.set_cons_succ, List.length_cons, List.length_nil, List.length_map, List.length_set, Nat.reduceAdd, Nat.reduceSub, Nat.reduceLT, Nat.reduceLeDiff, dAdd_i, dAdd_l, dAdd_t, dSub_i, dMul_i, dDiv_i, dModI_i, dLt_i, dLe_i, dGt_i, dGe_i, dEq_i, dNe_i, dEq_b, dNe_b, if_true, if_false, decide_true, decide_false, Bool.false_eq_true, Bool.not_true, Bool.not_false, and_true, true_and, and_self, or_true, true_or, reduceIte, Int.reduceNeg, Int.reducePow, Int.reduceLT, Int.reduceLE, Int.reduceGT, Int.reduceAdd, Int.reduceMul, Int.reduceSub, Int.reduceToNat, Nat.reducePow, Nat.reduceMul, Nat.reduceEqDiff, Int.reduceBEq, or_self, and_false, false_and, false_or, or_false, Bool.and_true, Bool.true_and, Bool.and_false, Bool.false_and, Bool.and_self, List.length_append, dAbs_i, Int.cast_ofNat_Int, beq_self_eq_true, String.reduceBEq, zip_l, zip_t, walk_l, walk_t, items_l, items_t, dLen_l, dLen_t, dTuple_l, dTuple_t, dList_l, dList_t, dInt_i, dSl_l, dSl_t, dIsNot_b, neg1, ht, z1, ti, a1, hr]
    rw [List.filter_cons]
    cases hR : R ws b (init ++ [i])
    · simp only [ih, eC_ap, eV_ap, eB_ap, eU_ap, eAnd_ap, eOr_ap, tE_ap, tAnd_ap, tOr_ap, tNot_ap, eIf_ap, eCh_ap, eA0_ap, eAc_ap, eAs_ap, eTup_ap, eLs_ap, eOfL_ap, eIxO_ap, eP0_ap, ePs_ap, eSl_ap, iW_ap, iR1_ap, iR2_ap, iZp_ap, gN_ap, gNilD_ap, gConsD_ap, gTupD_ap, cYes_ap, sNil_ap, sSeq_ap, sIf_ap, sRet_ap, sRetN_ap, sSet_ap, sSetO_ap, sExp_ap, sBrk_ap, sCont_ap, sApp_ap, ePop_ap, sPut_ap, eCall_ap, eCallO_ap, eLenO_ap, sDk0_ap, sDput_ap, eSrtDk_ap, eDget_ap, eDin_ap, eRevO_ap, eLenS_ap, eIxS_ap, iSq_ap, nSeq_ap, nRet_ap, sDraws_ap, sAug_ap, sPar_ap, unE, reE, keepF, dIs, dNot, dNeg, dIsT, isTy, tyOf, rets, retsO, List.getElem?_cons_zero, List.getElem?_cons_succ, List.set_cons_zero, List.set_cons_succ, List.length_cons, List.length_nil, List.length_map, List.length_set, Nat.reduceAdd, Nat.reduceSub, Nat.reduceLT, Nat.reduceLeDiff, dAdd_i, dAdd_l, dAdd_t, dSub_i, dMul_i, dDiv_i, dModI_i, dLt_i, dLe_i, dGt_i, dGe_i, dEq_i, dNe_i, dEq_b, dNe_b, if_true, if_false, decide_true, decide_false, Bool.false_eq_true, Bool.not_true, Bool.not_false, and_true, true_and, and_self, or_true, true_or, reduceIte, Int.reduceNeg, Int.reducePow, Int.reduceLT, Int.reduceLE, Int.reduceGT, Int.reduceAdd, Int.reduceMul, Int.reduceSub, Int.reduceToNat, Nat.reducePow, Nat.reduceMul, Nat.reduceEqDiff, Int.reduceBEq, or_self, and_false, false_and, false_or, or_false, Bool.and_true, Bool.true_and, Bool.and_false, Bool.false_and, Bool.and_self, List.length_append, dAbs_i, Int.cast_ofNat_Int, beq_self_eq_true, String.reduceBEq, zip_l, zip_t, walk_l, walk_t, items_l, items_t, dLen_l, dLen_t, dTuple_l, dTuple_t, dList_l, dList_t, dInt_i, dSl_l, dSl_t, dIsNot_b]
    · simp only [ih, eC_ap, eV_ap, eB_ap, eU_ap, eAnd_ap, eOr_ap, tE_ap, tAnd_ap, tOr_ap, tNot_ap, eIf_ap, eCh_ap, eA0_ap, eAc_ap, eAs_ap, eTup_ap, eLs_ap, eOfL_ap, eIxO_ap, eP0_ap, ePs_ap, eSl_ap, iW_ap, iR1_ap, iR2_ap, iZp_ap, gN_ap, gNilD_ap, gConsD_ap, gTupD_ap, cYes_ap, sNil_ap, sSeq_ap, sIf_ap, sRet_ap, sRetN_ap, sSet_ap, sSetO_ap, sExp_ap, sBrk_ap, sCont_ap, sApp_ap, ePop_ap, sPut_ap, eCall_ap, eCallO_ap, eLenO_ap, sDk0_ap, sDput_ap, eSrtDk_ap, eDget_ap, eDin_ap, eRevO_ap, eLenS_ap, eIxS_ap, iSq_ap, nSeq_ap, nRet_ap, sDraws_ap, sAug_ap, sPar_ap, unE, reE, keepF, dIs, dNot, dNeg, dIsT, isTy, tyOf, rets, retsO, List.getElem?_cons_zero, List.getElem?_cons_succ, List.set_cons_zero, List.set_cons_succ, List.length_cons, List.length_nil, List.length_map, List.length_set, Nat.reduceAdd, Nat.reduceSub, Nat.reduceLT, Nat.reduceLeDiff, dAdd_i, dAdd_l, dAdd_t, dSub_i, dMul_i, dDiv_i, dModI_i, dLt_i, dLe_i, dGt_i, dGe_i, dEq_i, dNe_i, dEq_b, dNe_b, if_true, if_false, decide_true, decide_false, Bool.false_eq_true, Bool.not_true, Bool.not_false, and_true, true_and, and_self, or_true, true_or, reduceIte, Int.reduceNeg, Int.reducePow, Int.reduceLT, Int.reduceLE, Int.reduceGT, Int.reduceAdd, Int.reduceMul, Int.reduceSub, Int.reduceToNat, Nat.reducePow, Nat.reduceMul, Nat.reduceEqDiff, Int.reduceBEq, or_self, and_false, false_and, false_or, or_false, Bool.and_true, Bool.true_and, Bool.and_false, Bool.false_and, Bool.and_self, List.length_append, dAbs_i, Int.cast_ofNat_Int, beq_self_eq_true, String.reduceBEq, zip_l, zip_t, walk_l, walk_t, items_l, items_t, dLen_l, dLen_t, dTuple_l, dTuple_t, dList_l, dList_t, dInt_i, dSl_l, dSl_t, dIsNot_b, List.map_cons]
theorem head_mark (P : Int → Bool) : dIx (.list ((digits.filter P).map .int ++ [.none])) (.int 0) = some (match digits.find? P with
    | some i => .int i
    | none => .none) := by
  rw [← List.head?_filter]
  cases digits.filter P with
  | nil => rfl
  | cons a r =>
    show atI _ _ = _
    have := atI_nat (xs := (List.map PyData.int (a :: r) ++ [PyData.none])) (i := 0) (by simp)
    exact this
theorem dig_init {ns : List Int} (h : dig ns = true) : dig ns.dropLast = true := List.all_eq_true.mpr fun x hx => List.all_eq_true.mp h x ((List.dropLast_sublist ns).subset hx)
theorem mark_eq {ws is : List Int} {b : Int} (hb : 0 < b) (hl : is.length + 1 = ws.length) (h10 : ws.length ≤ 10) (hd : dig is = true) : mf_mark_for [sch ws b, tupI is] = some (markOf ws b is) := by
  unfold mf_mark_for
  simp only [asSch_eq, asTup_eq]
  exact if_pos ⟨hb, hl, h10, hd⟩
theorem okS_mark (n : Nat) (ws is : List Int) (b : Int) : okS (n + 1) (markOf ws b is) := by
  unfold markOf
  split <;> exact trivial
theorem tuple_ints (vs : List Int) : (PyData.tuple (vs.map .int) : D) = tupI vs := (Eq.refl _).trans (Eq.refl _)
theorem rng8 : ¬ rng 0 8 = [] := fun z => by
  have z2 := congrArg List.length z
  rw [rng_len] at z2
  revert z2
  decide
def turnB : SM :=
    (sSeq (sSet (gN 8) (eCall dTuple (eAc (eOfL (cC [10] (iR1 (eAc (eV 4) eA0)) (gN 10) cYes (eCallO 1 mf__law_take (eAc (eC (.int 10)) eA0)))) eA0)))
    (sSeq (sSet (gN 9) (eOfL (cC [18] (iR1 (eAc (eC (.int 10)) eA0)) (gN 18) (tE (eCall mf__law_right (eAc (eV 5) (eAc (eB dAdd (eSl (eV 8) eP0 (ePs (eU dNeg (eC (.int 1))))) (eTup (eAc (eV 18) eA0))) eA0)))) (eV 18))))
    (sIf (DL.tOr (tE (eB dIsNot (eCall mf_is_bar_number (eAc (eV 5) (eAc (eV 8) eA0))) (eC (.bool true)))) (DL.tNot (tE (eCall mf__law_same (eAc (eOfL (eLs (eAc (eCall mf_is_right (eAc (eV 5) (eAc (eV 8) eA0))) (eAc (eCall mf_mark_for (eAc (eV 5) (eAc (eSl (eV 8) eP0 (ePs (eU dNeg (eC (.int 1))))) eA0))) eA0)))) (eAc (eOfL (eLs (eAc (eCall mf__law_right (eAc (eV 5) (eAc (eV 8) eA0))) (eAc (eB dIx (eB dAdd (eV 9) (eOfL (eLs (eAc (eC .none) eA0)))) (eC (.int 0))) eA0)))) eA0)))))) (sRet (eC (.bool false))) sNil)))
theorem turn_step (s0 x2 : SV) (ws : List Int) (b : Int) (hb : 0 < b) (h2 : 2 ≤ ws.length) (h10 : ws.length ≤ 10) (Φ : Fl → Prop) (x11 x12 x13 x14 x15 : SV) (x7 : SV)
    (h : ∀ (l ns : List Int) (x9 : SV), ns.length = ws.length → dig ns = true → Φ (.nx (EV s0 x2 ws b l x7 (.fz (tupI ns)) x9 .un x11 x12 x13 x14 x15))) (l : List Int) (x8 x9 : SV) :
    turnB (EV s0 x2 ws b l x7 x8 x9 .un x11 x12 x13 x14 x15) Φ := by
  unfold turnB
  have hs : small62 (ws.length : Int) = true := small_10 h10
  have hsn := seg_number s0 x2 (.fz (.int b)) (.fz (.int (ws.length : Int))) (.fz (sch ws b)) (.fz (tupI ws)) x7 x8 x9 x11 x12 x13 x14 x15 .un .un .un .un .un .un (rng 0 (ws.length : Int)) l
  obtain ⟨ns, l', hn1, hn2, hn3⟩ := hsn
  have hnl : ns.length = ws.length := by rw [hn1, rng_len]; omega
  have hnz : (ns.map PyData.int).length ≤ sizeLine := line_small (by rw [List.length_map]; omega)
  rw [List.length_map] at hnz
  simp only [eC_ap, eV_ap, eB_ap, eU_ap, eAnd_ap, eOr_ap, tE_ap, tAnd_ap, tOr_ap, tNot_ap, eIf_ap, eCh_ap, eA0_ap, eAc_ap, eAs_ap, eTup_ap, eLs_ap, eOfL_ap, eIxO_ap, eP0_ap, ePs_ap, eSl_ap, iW_ap, iR1_ap, iR2_ap, iZp_ap, gN_ap, gNilD_ap, gConsD_ap, gTupD_ap, cYes_ap, sNil_ap, sSeq_ap, sIf_ap, sRet_ap, sRetN_ap, sSet_ap, sSetO_ap, sExp_ap, sBrk_ap, sCont_ap, sApp_ap, ePop_ap, sPut_ap, eCall_ap, eCallO_ap, eLenO_ap, sDk0_ap, sDput_ap, eSrtDk_ap, eDget_ap, eDin_ap, eRevO_ap, eLenS_ap, eIxS_ap, iSq_ap, nSeq_ap, nRet_ap, sDraws_ap, sAug_ap, sPar_ap, unE, reE, keepF, dIs, dNot, dNeg, dIsT, isTy, tyOf, rets, retsO, List.getElem?_cons_zero, List.getElem?_cons_succ, List.set_cons_zero, List.set_cons_succ, List.length_cons, List.length_nil, List.length_map, List.length_set, Nat.reduceAdd, Nat.reduceSub, Nat.reduceLT, Nat.reduceLeDiff, dAdd_i, dAdd_l, dAdd_t, dSub_i, dMul_i, dDiv_i, dModI_i, dLt_i, dLe_i, dGt_i, dGe_i, dEq_i, dNe_i, dEq_b, dNe_b, if_true, if_false, decide_true, decide_false, Bool.false_eq_true, Bool.not_true, Bool.not_false, and_true, true_and, and_self, or_true, true_or, reduceIte, Int.reduceNeg, Int.reducePow, Int.reduceLT, Int.reduceLE, Int.reduceGT, Int.reduceAdd, Int.reduceMul, Int.reduceSub, Int.reduceToNat, Nat.reducePow, Nat.reduceMul, Nat.reduceEqDiff, Int.reduceBEq, or_self, and_false, false_and, false_or, or_false, Bool.and_true, Bool.true_and, Bool.and_false, Bool.false_and, Bool.and_self, List.length_append, dAbs_i, Int.cast_ofNat_Int, beq_self_eq_true, String.reduceBEq, zip_l, zip_t, walk_l, walk_t, items_l, items_t, dLen_l, dLen_t, dTuple_l, dTuple_t, dList_l, dList_t, dInt_i, dSl_l, dSl_t, dIsNot_b, EV, cC_ap, hs, hn3, hnz, tuple_ints]
  have h10' : small62 10 = true := s62 (by decide) (by decide)
  have hil : ns.dropLast.length + 1 = ws.length := by rw [List.length_dropLast]; omega
  have hm := seg_marks ws ns.dropLast b hb hil h10 (dig_init hn2) ns rfl s0 (.ow none (l'.map .int)) x2 (.fz (.int b)) (.fz (.int (ws.length : Int))) (.fz (tupI ws)) x7 x9 .un x11 x12 x13 x14 x15 .un .un .un .un .un digits digits_small
  have hfl : (digits.filter fun i => R ws b (ns.dropLast ++ [i])).length ≤ 10 := List.length_filter_le _ digits
  have hfz : (digits.filter fun i => R ws b (ns.dropLast ++ [i])).length ≤ sizeLine := line_small (Nat.le_trans hfl (by decide))
  have hbar := bar_good (b := b) hnl hn2
  have hr1 : mf_is_right [sch ws b, tupI ns] = some (.bool (R ws b ns)) := right_eq hb hnl h10 hn2
  have hr2 : mf__law_right [sch ws b, tupI ns] = some (.bool (R ws b ns)) := right_eq hb hnl h10 hn2
  have hmk := mark_eq hb hil h10 (dig_init hn2)
  have hti := tup_init ns
  have hh := head_mark (fun i => R ws b (ns.dropLast ++ [i]))
  have z1 : 1 ≤ sizeLine := line_small (by decide)
  have z2 : 2 ≤ sizeLine := line_small (by decide)
  have hsame : mf__law_same [.list [.bool (R ws b ns), markOf ws b ns.dropLast], .list [.bool (R ws b ns), markOf ws b ns.dropLast]] = some (.bool true) := same_eq ⟨fun d hd => by
    rcases List.mem_cons.mp hd with rfl | hd
    · exact trivial
    · rw [List.mem_singleton.mp hd]
      exact okS_mark 0 ws ns.dropLast b, z2⟩
  have hy2 : dIx (.list ((digits.filter fun i => R ws b (ns.dropLast ++ [i])).map .int ++ [.none])) (.int 0) = some (markOf ws b ns.dropLast) := hh
  have hz1 : (digits.filter fun i => R ws b (ns.dropLast ++ [i])).length + 1 ≤ sizeLine := line_small (Nat.le_trans (Nat.add_le_add_right hfl 1) (by decide))
  simp only [eOfL_ap, sSet_ap, cC_ap, iR1_ap, eAc_ap, eA0_ap, eC_ap, h10', if_true, eC_ap, eV_ap, eB_ap, eU_ap, eAnd_ap, eOr_ap, tE_ap, tAnd_ap, tOr_ap, tNot_ap, eIf_ap, eCh_ap, eA0_ap, eAc_ap, eAs_ap, eTup_ap, eLs_ap, eOfL_ap, eIxO_ap, eP0_ap, ePs_ap, eSl_ap, iW_ap, iR1_ap, iR2_ap, iZp_ap, gN_ap, gNilD_ap, gConsD_ap, gTupD_ap, cYes_ap, sNil_ap, sSeq_ap, sIf_ap, sRet_ap, sRetN_ap, sSet_ap, sSetO_ap, sExp_ap, sBrk_ap, sCont_ap, sApp_ap, ePop_ap, sPut_ap, eCall_ap, eCallO_ap, eLenO_ap, sDk0_ap, sDput_ap, eSrtDk_ap, eDget_ap, eDin_ap, eRevO_ap, eLenS_ap, eIxS_ap, iSq_ap, nSeq_ap, nRet_ap, sDraws_ap, sAug_ap, sPar_ap, unE, reE, keepF, dIs, dNot, dNeg, dIsT, isTy, tyOf, rets, retsO, List.getElem?_cons_zero, List.getElem?_cons_succ, List.set_cons_zero, List.set_cons_succ, List.length_cons, List.length_nil, List.length_map, List.length_set, Nat.reduceAdd, Nat.reduceSub, Nat.reduceLT, Nat.reduceLeDiff, dAdd_i, dAdd_l, dAdd_t, dSub_i, dMul_i, dDiv_i, dModI_i, dLt_i, dLe_i, dGt_i, dGe_i, dEq_i, dNe_i, dEq_b, dNe_b, if_true, if_false, decide_true, decide_false, Bool.false_eq_true, Bool.not_true, Bool.not_false, and_true, true_and, and_self, or_true, true_or, reduceIte, Int.reduceNeg, Int.reducePow, Int.reduceLT, Int.reduceLE, Int.reduceGT, Int.reduceAdd, Int.reduceMul, Int.reduceSub, Int.reduceToNat, Nat.reducePow, Nat.reduceMul, Nat.reduceEqDiff, Int.reduceBEq, or_self, and_false, false_and, false_or, or_false, Bool.and_true, Bool.true_and, Bool.and_false, Bool.false_and, Bool.and_self, List.length_append, dAbs_i, Int.cast_ofNat_Int, beq_self_eq_true, String.reduceBEq, zip_l, zip_t, walk_l, walk_t, items_l, items_t, dLen_l, dLen_t, dTuple_l, dTuple_t, dList_l, dList_t, dInt_i, dSl_l, dSl_t, dIsNot_b, rng10, hm, hfz, hbar, isNot_tt, hr1, hr2, neg1, hti, hmk, z1, z2, hz1, hy2, hsame]
  exact h l' ns _ hnl hn2
theorem seg_turn (s0 x2 : SV) (ws : List Int) (b : Int) (hb : 0 < b) (h2 : 2 ≤ ws.length) (h10 : ws.length ≤ 10) (Φ : Fl → Prop) (x11 x12 x13 x14 x15 : SV)
    (h : ∀ (l ns : List Int) (x7 x9 : SV), ns.length = ws.length → dig ns = true → Φ (.nx (EV s0 x2 ws b l x7 (.fz (tupI ns)) x9 .un x11 x12 x13 x14 x15))) (l : List Int) (x7 x8 x9 : SV) :
    sFor (iR1 (eAc (eC (.int 8)) eA0)) (gN 7) turnB (EV s0 x2 ws b l x7 x8 x9 .un x11 x12 x13 x14 x15) Φ := by
  rw [range1_ap _ (s62 (by decide) (by decide))]
  have hr8 := rng8
  generalize rng 0 8 = r0 at hr8 ⊢
  refine wFor_inv (fun r env => ∃ (l : List Int) (x7 x8 x9 : SV), env = EV s0 x2 ws b l x7 x8 x9 .un x11 x12 x13 x14 x15 ∧ (r = [] → ∃ ns : List Int, x8 = .fz (tupI ns) ∧ ns.length = ws.length ∧ dig ns = true)) ?_ ?_ _ _ ⟨l, x7, x8, x9, rfl, fun z => absurd z hr8⟩
  · rintro d r env ⟨l, x7, x8, x9, rfl, _⟩ K hK
    exact ⟨EV s0 x2 ws b l (.fz d) x8 x9 .un x11 x12 x13 x14 x15, rfl, turn_step s0 x2 ws b hb h2 h10 _ x11 x12 x13 x14 x15 (.fz d) (fun l' ns y9 g1 g2 => hK _ ⟨l', _, _, _, rfl, fun _ => ⟨ns, rfl, g1, g2⟩⟩) l x8 x9⟩
  · rintro env ⟨l, x7, x8, x9, rfl, hz⟩
    obtain ⟨ns, rfl, g1, g2⟩ := hz rfl
    exact h l ns x7 x9 g1 g2
end K92

namespace K92
open PySem PySem.Spec PyProof.Rows L2 GxR DL
theorem wrong_eq {ws : List Int} {b : Int} {p : Nat} (hb : 0 < b) (hp : p < ws.length) : mf_shows_wrong [sch ws b, .int (p : Int)] = some (.bool (wrongB b ws[p])) := by
  unfold mf_shows_wrong
  simp only [asSch_eq]
  rw [if_pos ⟨hb, Int.natCast_nonneg p⟩]
  simp only [Int.toNat_natCast, List.getElem?_eq_getElem hp]
theorem exch_eq {ws : List Int} {b : Int} {p : Nat} (hb : 0 < b) (hb2 : b ≤ 100) (h10 : ws.length ≤ 10) (hp : p < ws.length) (hq : p + 1 < ws.length) : mf_shows_exchange [sch ws b, .int (p : Int)] = some (.bool (exchB ws b p ws[p] ws[p + 1])) := by
  unfold mf_shows_exchange
  simp only [asSch_eq]
  rw [if_pos ⟨hb, hb2, Int.natCast_nonneg p, h10⟩]
  simp only [Int.toNat_natCast, List.getElem?_eq_getElem hp, List.getElem?_eq_getElem hq]
theorem steps_small : ∀ i ∈ steps, 1 ≤ i ∧ i ≤ 9 := by decide
theorem rng_steps : rng 1 10 = steps.map PyData.int := (Eq.refl _).trans (Eq.refl _)
def pl1B : SM :=
    (sSeq (sSet (gN 11) (eB dEq (eOfL (cC [19] (iR2 (eAc (eC (.int 1)) (eAc (eC (.int 10)) eA0))) (gN 19) (tE (eB dEq (eB dModI (eCall dInt (eAc (eB dMul (eB dIx (eV 6) (eV 10)) (eV 19)) eA0)) (eV 3)) (eC (.int 0)))) (eV 19))) (eOfL (eLs eA0))))
    (sIf (DL.tNot (tE (eCall mf__law_same (eAc (eCall mf_shows_wrong (eAc (eV 5) (eAc (eV 10) eA0))) (eAc (eV 11) eA0))))) (sRet (eC (.bool false))) sNil))
theorem pl1_step (s0 x2 : SV) (ws : List Int) (b : Int) (hb : 0 < b) (p : Nat) (hp : p < ws.length) (Φ : Fl → Prop) (l : List Int) (x7 x8 x9 x11 x12 x13 x14 x15 : SV)
    (h : ∀ x11, Φ (.nx (EV s0 x2 ws b l x7 x8 x9 (.fz (.int (p : Int))) x11 x12 x13 x14 x15))) : pl1B (EV s0 x2 ws b l x7 x8 x9 (.fz (.int (p : Int))) x11 x12 x13 x14 x15) Φ := by
  unfold pl1B
  have h1 : small62 1 = true := s62 (by decide) (by decide)
  have h10 : small62 10 = true := s62 (by decide) (by decide)
  have z0 : 0 ≤ sizeLine := Nat.zero_le _
  have hw := wrong_eq hb hp
  have hs : mf__law_same [.bool (wrongB b ws[p]), .bool (wrongB b ws[p])] = some (.bool true) := same_eq trivial
  have hfl : (steps.filter fun s => ws[p] * s % b == 0).length ≤ sizeLine := line_small (Nat.le_trans (List.length_filter_le _ steps) (by decide))
  have hst := seg_steps b ws[p] (eB dIx (eV 6) (eV 10)) s0 (.ow none (l.map .int)) x2 .un (.fz (.int (ws.length : Int))) (.fz (sch ws b)) (.fz (tupI ws)) x7 x8 x9 (.fz (.int (p : Int))) x11 x12 x13 x14 x15 .un .un .un .un .un hb (fun s => by simp only [eC_ap, eV_ap, eB_ap, eU_ap, eAnd_ap, eOr_ap, tE_ap, tAnd_ap, tOr_ap, tNot_ap, eIf_ap, eCh_ap, eA0_ap, eAc_ap, eAs_ap, eTup_ap, eLs_ap, eOfL_ap, eIxO_ap, eP0_ap, ePs_ap, eSl_ap, iW_ap, iR1_ap, iR2_ap, iZp_ap, gN_ap, gNilD_ap, gConsD_ap, gTupD_ap, cYes_ap, sNil_ap, sSeq_ap, sIf_ap, sRet_ap, sRetN_ap, sSet_ap, sSetO_ap, sExp_ap, sBrk_ap, sCont_ap, sApp_ap, ePop_ap, sPut_ap, eCall_ap, eCallO_ap, eLenO_ap, sDk0_ap, sDput_ap, eSrtDk_ap, eDget_ap, eDin_ap, eRevO_ap, eLenS_ap, eIxS_ap, iSq_ap, nSeq_ap, nRet_ap, sDraws_ap, sAug_ap, sPar_ap, unE, reE, keepF, dIs, dNot, dNeg, dIsT, isTy, tyOf, rets, retsO, List.getElem?_cons_zero, List.getElem?_cons_succ, List.set_cons_zero, List.set_cons_succ, List.length_cons, List.length_nil, List.length_map, List.length_set, Nat.reduceAdd, Nat.reduceSub, Nat.reduceLT, Nat.reduceLeDiff, dAdd_i, dAdd_l, dAdd_t, dSub_i, dMul_i, dDiv_i, dModI_i, dLt_i, dLe_i, dGt_i, dGe_i, dEq_i, dNe_i, dEq_b, dNe_b, if_true, if_false, decide_true, decide_false, Bool.false_eq_true, Bool.not_true, Bool.not_false, and_true, true_and, and_self, or_true, true_or, reduceIte, Int.reduceNeg, Int.reducePow, Int.reduceLT, Int.reduceLE, Int.reduceGT, Int.reduceAdd, Int.reduceMul, Int.reduceSub, Int.reduceToNat, Nat.reducePow, Nat.reduceMul, Nat.reduceEqDiff, Int.reduceBEq, or_self, and_false, false_and, false_or, or_false, Bool.and_true, Bool.true_and, Bool.and_false, Bool.false_and, Bool.and_self, List.length_append, dAbs_i, Int.cast_ofNat_Int, beq_self_eq_true, String.reduceBEq, zip_l, zip_t, walk_l, walk_t, items_l, items_t, dLen_l, dLen_t, dTuple_l, dTuple_t, dList_l, dList_t, dInt_i, dSl_l, dSl_t, dIsNot_b, Bool.true_or, Bool.or_true, Bool.or_false, Bool.false_or, ix_tup hp]) steps steps_small
  simp only [EV, sSeq_ap, sSet_ap, eB_ap, eOfL_ap, cC_ap, iR2_ap, eAc_ap, eA0_ap, eC_ap, h1, h10, Bool.and_self, if_true, rng_steps, unE, List.set_cons_succ, List.set_cons_zero]
  simp only [hst, hfl, eq_nil, filter_wrong, z0, eC_ap, eV_ap, eB_ap, eU_ap, eAnd_ap, eOr_ap, tE_ap, tAnd_ap, tOr_ap, tNot_ap, eIf_ap, eCh_ap, eA0_ap, eAc_ap, eAs_ap, eTup_ap, eLs_ap, eOfL_ap, eIxO_ap, eP0_ap, ePs_ap, eSl_ap, iW_ap, iR1_ap, iR2_ap, iZp_ap, gN_ap, gNilD_ap, gConsD_ap, gTupD_ap, cYes_ap, sNil_ap, sSeq_ap, sIf_ap, sRet_ap, sRetN_ap, sSet_ap, sSetO_ap, sExp_ap, sBrk_ap, sCont_ap, sApp_ap, ePop_ap, sPut_ap, eCall_ap, eCallO_ap, eLenO_ap, sDk0_ap, sDput_ap, eSrtDk_ap, eDget_ap, eDin_ap, eRevO_ap, eLenS_ap, eIxS_ap, iSq_ap, nSeq_ap, nRet_ap, sDraws_ap, sAug_ap, sPar_ap, unE, reE, keepF, dIs, dNot, dNeg, dIsT, isTy, tyOf, rets, retsO, List.getElem?_cons_zero, List.getElem?_cons_succ, List.set_cons_zero, List.set_cons_succ, List.length_cons, List.length_nil, List.length_map, List.length_set, Nat.reduceAdd, Nat.reduceSub, Nat.reduceLT, Nat.reduceLeDiff, dAdd_i, dAdd_l, dAdd_t, dSub_i, dMul_i, dDiv_i, dModI_i, dLt_i, dLe_i, dGt_i, dGe_i, dEq_i, dNe_i, dEq_b, dNe_b, if_true, if_false, decide_true, decide_false, Bool.false_eq_true, Bool.not_true, Bool.not_false, and_true, true_and, and_self, or_true, true_or, reduceIte, Int.reduceNeg, Int.reducePow, Int.reduceLT, Int.reduceLE, Int.reduceGT, Int.reduceAdd, Int.reduceMul, Int.reduceSub, Int.reduceToNat, Nat.reducePow, Nat.reduceMul, Nat.reduceEqDiff, Int.reduceBEq, or_self, and_false, false_and, false_or, or_false, Bool.and_true, Bool.true_and, Bool.and_false, Bool.false_and, Bool.and_self, List.length_append, dAbs_i, Int.cast_ofNat_Int, beq_self_eq_true, String.reduceBEq, zip_l, zip_t, walk_l, walk_t, items_l, items_t, dLen_l, dLen_t, dTuple_l, dTuple_t, dList_l, dList_t, dInt_i, dSl_l, dSl_t, dIsNot_b, Bool.true_or, Bool.or_true, Bool.or_false, Bool.false_or, hw, hs]
  exact h _
theorem seg_pl1 (s0 x2 : SV) (ws : List Int) (b : Int) (hb : 0 < b) (h10 : ws.length ≤ 10) (Φ : Fl → Prop) (l : List Int) (x7 x8 x9 x12 x13 x14 x15 : SV)
    (h : ∀ x10 x11, Φ (.nx (EV s0 x2 ws b l x7 x8 x9 x10 x11 x12 x13 x14 x15))) (x10 x11 : SV) :
    sFor (iR1 (eAc (eV 4) eA0)) (gN 10) pl1B (EV s0 x2 ws b l x7 x8 x9 x10 x11 x12 x13 x14 x15) Φ := by
  have hs : small62 (ws.length : Int) = true := small_10 h10
  rw [sFor_ap]
  simp only [EV, eC_ap, eV_ap, eB_ap, eU_ap, eAnd_ap, eOr_ap, tE_ap, tAnd_ap, tOr_ap, tNot_ap, eIf_ap, eCh_ap, eA0_ap, eAc_ap, eAs_ap, eTup_ap, eLs_ap, eOfL_ap, eIxO_ap, eP0_ap, ePs_ap, eSl_ap, iW_ap, iR1_ap, iR2_ap, iZp_ap, gN_ap, gNilD_ap, gConsD_ap, gTupD_ap, cYes_ap, sNil_ap, sSeq_ap, sIf_ap, sRet_ap, sRetN_ap, sSet_ap, sSetO_ap, sExp_ap, sBrk_ap, sCont_ap, sApp_ap, ePop_ap, sPut_ap, eCall_ap, eCallO_ap, eLenO_ap, sDk0_ap, sDput_ap, eSrtDk_ap, eDget_ap, eDin_ap, eRevO_ap, eLenS_ap, eIxS_ap, iSq_ap, nSeq_ap, nRet_ap, sDraws_ap, sAug_ap, sPar_ap, unE, reE, keepF, dIs, dNot, dNeg, dIsT, isTy, tyOf, rets, retsO, List.getElem?_cons_zero, List.getElem?_cons_succ, List.set_cons_zero, List.set_cons_succ, List.length_cons, List.length_nil, List.length_map, List.length_set, Nat.reduceAdd, Nat.reduceSub, Nat.reduceLT, Nat.reduceLeDiff, dAdd_i, dAdd_l, dAdd_t, dSub_i, dMul_i, dDiv_i, dModI_i, dLt_i, dLe_i, dGt_i, dGe_i, dEq_i, dNe_i, dEq_b, dNe_b, if_true, if_false, decide_true, decide_false, Bool.false_eq_true, Bool.not_true, Bool.not_false, and_true, true_and, and_self, or_true, true_or, reduceIte, Int.reduceNeg, Int.reducePow, Int.reduceLT, Int.reduceLE, Int.reduceGT, Int.reduceAdd, Int.reduceMul, Int.reduceSub, Int.reduceToNat, Nat.reducePow, Nat.reduceMul, Nat.reduceEqDiff, Int.reduceBEq, or_self, and_false, false_and, false_or, or_false, Bool.and_true, Bool.true_and, Bool.and_false, Bool.false_and, Bool.and_self, List.length_append, dAbs_i, Int.cast_ofNat_Int, beq_self_eq_true, String.reduceBEq, zip_l, zip_t, walk_l, walk_t, items_l, items_t, dLen_l, dLen_t, dTuple_l, dTuple_t, dList_l, dList_t, dInt_i, dSl_l, dSl_t, dIsNot_b, Bool.true_or, Bool.or_true, Bool.or_false, Bool.false_or, hs]
  refine wFor_pass (fun env => ∃ x10 x11, env = EV s0 x2 ws b l x7 x8 x9 x10 x11 x12 x13 x14 x15) _ _ ⟨x10, x11, rfl⟩ ?_ ?_
  · rintro d hd env ⟨y10, y11, rfl⟩ K hK
    obtain ⟨i, rfl, h0, h1⟩ := rng_mem hd
    obtain ⟨p, rfl⟩ : ∃ p : Nat, i = (p : Int) := ⟨i.toNat, by omega⟩
    have hp : p < ws.length := by omega
    exact ⟨EV s0 x2 ws b l x7 x8 x9 (.fz (.int (p : Int))) y11 x12 x13 x14 x15, rfl, pl1_step s0 x2 ws b hb p hp _ l x7 x8 x9 y11 x12 x13 x14 x15 fun z => hK _ ⟨_, _, rfl⟩⟩
  · rintro env ⟨y10, y11, rfl⟩
    exact h _ _
/-! ### the second loop -/
theorem in_tupI (us : List Int) (i : Int) : dInA (.int i) (tupI us) = some (.bool (us.any fun j => j == i)) := by
  unfold tupI dInA
  simp only [intsOf_map]
def pl2B : SM :=
    (sSeq (sSet (gN 12) (eB dEq (eOfL (cC [19] (iR2 (eAc (eC (.int 1)) (eAc (eC (.int 10)) eA0))) (gN 19) (tE (eB dEq (eB dModI (eCall dInt (eAc (eB dMul (eB dSub (eB dIx (eV 6) (eV 10)) (eB dIx (eV 6) (eB dAdd (eV 10) (eC (.int 1))))) (eV 19)) eA0)) (eV 3)) (eC (.int 0)))) (eV 19))) (eOfL (eLs eA0))))
    (sSeq (sSet (gN 13) (eCall mf_shows_exchange (eAc (eV 5) (eAc (eV 10) eA0))))
    (sSeq (sIf (DL.tOr (DL.tNot (tE (eU (dIsT "bool") (eV 13)))) (DL.tAnd (tE (eV 12)) (DL.tNot (tE (eV 13))))) (sRet (eC (.bool false))) sNil)
    (sIf (DL.tAnd (tE (eB dLt (eV 3) (eC (.int 11)))) (DL.tAnd (tE (eB dInA (eC (.int 1)) (eB dAdd (eSl (eV 6) eP0 (ePs (eV 10))) (eSl (eV 6) (ePs (eB dAdd (eV 10) (eC (.int 2)))) eP0)))) (tE (eB dNe (eV 13) (eV 12))))) (sRet (eC (.bool false))) sNil))))
theorem pl2_step (s0 x2 : SV) (ws : List Int) (b : Int) (hb : 0 < b) (hb2 : b ≤ 100) (h10 : ws.length ≤ 10) (p : Nat) (hp : p < ws.length) (hq : p + 1 < ws.length)
    (m1 : wrongB b (ws[p] - ws[p + 1]) = true → exchB ws b p ws[p] ws[p + 1] = true)
    (m2 : b < 11 → ((ws.take p ++ ws.drop (p + 2)).any fun j => j == 1) = true → exchB ws b p ws[p] ws[p + 1] = wrongB b (ws[p] - ws[p + 1]))
    (Φ : Fl → Prop) (l : List Int) (x7 x8 x9 x11 x12 x13 x14 x15 : SV)
    (h : ∀ x12 x13, Φ (.nx (EV s0 x2 ws b l x7 x8 x9 (.fz (.int (p : Int))) x11 x12 x13 x14 x15))) : pl2B (EV s0 x2 ws b l x7 x8 x9 (.fz (.int (p : Int))) x11 x12 x13 x14 x15) Φ := by
  unfold pl2B
  have h1 : small62 1 = true := s62 (by decide) (by decide)
  have h10' : small62 10 = true := s62 (by decide) (by decide)
  have z0 : 0 ≤ sizeLine := Nat.zero_le _
  have he := exch_eq hb hb2 h10 hp hq
  have hfl : (steps.filter fun s => (ws[p] - ws[p + 1]) * s % b == 0).length ≤ sizeLine := line_small (Nat.le_trans (List.length_filter_le _ steps) (by decide))
  have ha := tup_add (ws.take p) (ws.drop (p + 2)) (by rw [List.length_take, List.length_drop]; omega)
  have hst := seg_steps b (ws[p] - ws[p + 1]) (eB dSub (eB dIx (eV 6) (eV 10)) (eB dIx (eV 6) (eB dAdd (eV 10) (eC (.int 1))))) s0 (.ow none (l.map .int)) x2 .un (.fz (.int (ws.length : Int))) (.fz (sch ws b)) (.fz (tupI ws)) x7 x8 x9 (.fz (.int (p : Int))) x11 x12 x13 x14 x15 .un .un .un .un .un hb (fun s => by simp only [eC_ap, eV_ap, eB_ap, eU_ap, eAnd_ap, eOr_ap, tE_ap, tAnd_ap, tOr_ap, tNot_ap, eIf_ap, eCh_ap, eA0_ap, eAc_ap, eAs_ap, eTup_ap, eLs_ap, eOfL_ap, eIxO_ap, eP0_ap, ePs_ap, eSl_ap, iW_ap, iR1_ap, iR2_ap, iZp_ap, gN_ap, gNilD_ap, gConsD_ap, gTupD_ap, cYes_ap, sNil_ap, sSeq_ap, sIf_ap, sRet_ap, sRetN_ap, sSet_ap, sSetO_ap, sExp_ap, sBrk_ap, sCont_ap, sApp_ap, ePop_ap, sPut_ap, eCall_ap, eCallO_ap, eLenO_ap, sDk0_ap, sDput_ap, eSrtDk_ap, eDget_ap, eDin_ap, eRevO_ap, eLenS_ap, eIxS_ap, iSq_ap, nSeq_ap, nRet_ap, sDraws_ap, sAug_ap, sPar_ap, unE, reE, keepF, dIs, dNot, dNeg, dIsT, isTy, tyOf, rets, retsO, List.getElem?_cons_zero, List.getElem?_cons_succ, List.set_cons_zero, List.set_cons_succ, List.length_cons, List.length_nil, List.length_map, List.length_set, Nat.reduceAdd, Nat.reduceSub, Nat.reduceLT, Nat.reduceLeDiff, dAdd_i, dAdd_l, dAdd_t, dSub_i, dMul_i, dDiv_i, dModI_i, dLt_i, dLe_i, dGt_i, dGe_i, dEq_i, dNe_i, dEq_b, dNe_b, if_true, if_false, decide_true, decide_false, Bool.false_eq_true, Bool.not_true, Bool.not_false, and_true, true_and, and_self, or_true, true_or, reduceIte, Int.reduceNeg, Int.reducePow, Int.reduceLT, Int.reduceLE, Int.reduceGT, Int.reduceAdd, Int.reduceMul, Int.reduceSub, Int.reduceToNat, Nat.reducePow, Nat.reduceMul, Nat.reduceEqDiff, Int.reduceBEq, or_self, and_false, false_and, false_or, or_false, Bool.and_true, Bool.true_and, Bool.and_false, Bool.false_and, Bool.and_self, List.length_append, dAbs_i, Int.cast_ofNat_Int, beq_self_eq_true, String.reduceBEq, zip_l, zip_t, walk_l, walk_t, items_l, items_t, dLen_l, dLen_t, dTuple_l, dTuple_t, dList_l, dList_t, dInt_i, dSl_l, dSl_t, dIsNot_b, Bool.true_or, Bool.or_true, Bool.or_false, Bool.false_or, ix_tup hp, ix_tup1 hq]) steps steps_small
  simp only [EV, sSeq_ap, sSet_ap, eB_ap, eOfL_ap, cC_ap, iR2_ap, eAc_ap, eA0_ap, eC_ap, h1, h10', Bool.and_self, if_true, rng_steps, unE, List.set_cons_succ, List.set_cons_zero]
  simp only [hst, hfl, eq_nil, filter_wrong, z0, eC_ap, eV_ap, eB_ap, eU_ap, eAnd_ap, eOr_ap, tE_ap, tAnd_ap, tOr_ap, tNot_ap, eIf_ap, eCh_ap, eA0_ap, eAc_ap, eAs_ap, eTup_ap, eLs_ap, eOfL_ap, eIxO_ap, eP0_ap, ePs_ap, eSl_ap, iW_ap, iR1_ap, iR2_ap, iZp_ap, gN_ap, gNilD_ap, gConsD_ap, gTupD_ap, cYes_ap, sNil_ap, sSeq_ap, sIf_ap, sRet_ap, sRetN_ap, sSet_ap, sSetO_ap, sExp_ap, sBrk_ap, sCont_ap, sApp_ap, ePop_ap, sPut_ap, eCall_ap, eCallO_ap, eLenO_ap, sDk0_ap, sDput_ap, eSrtDk_ap, eDget_ap, eDin_ap, eRevO_ap, eLenS_ap, eIxS_ap, iSq_ap, nSeq_ap, nRet_ap, sDraws_ap, sAug_ap, sPar_ap, unE, reE, keepF, dIs, dNot, dNeg, dIsT, isTy, tyOf, rets, retsO, List.getElem?_cons_zero, List.getElem?_cons_succ, List.set_cons_zero, List.set_cons_succ, List.length_cons, List.length_nil, List.length_map, List.length_set, Nat.reduceAdd, Nat.reduceSub, Nat.reduceLT, Nat.reduceLeDiff, dAdd_i, dAdd_l, dAdd_t, dSub_i, dMul_i, dDiv_i, dModI_i, dLt_i, dLe_i, dGt_i, dGe_i, dEq_i, dNe_i, dEq_b, dNe_b, if_true, if_false, decide_true, decide_false, Bool.false_eq_true, Bool.not_true, Bool.not_false, and_true, true_and, and_self, or_true, true_or, reduceIte, Int.reduceNeg, Int.reducePow, Int.reduceLT, Int.reduceLE, Int.reduceGT, Int.reduceAdd, Int.reduceMul, Int.reduceSub, Int.reduceToNat, Nat.reducePow, Nat.reduceMul, Nat.reduceEqDiff, Int.reduceBEq, or_self, and_false, false_and, false_or, or_false, Bool.and_true, Bool.true_and, Bool.and_false, Bool.false_and, Bool.and_self, List.length_append, dAbs_i, Int.cast_ofNat_Int, beq_self_eq_true, String.reduceBEq, zip_l, zip_t, walk_l, walk_t, items_l, items_t, dLen_l, dLen_t, dTuple_l, dTuple_t, dList_l, dList_t, dInt_i, dSl_l, dSl_t, dIsNot_b, Bool.true_or, Bool.or_true, Bool.or_false, Bool.false_or, he, tup_take, tup_drop2, ha, in_tupI]
  have fin := h (.fz (.bool (wrongB b (ws[p] - ws[p + 1])))) (.fz (.bool (exchB ws b p ws[p] ws[p + 1])))
  simp only [EV] at fin
  have hin := in_tupI (ws.take p ++ ws.drop (p + 2)) 1
  generalize wrongB b (ws[p] - ws[p + 1]) = W at *
  generalize exchB ws b p ws[p] ws[p + 1] = X at *
  generalize ((ws.take p ++ ws.drop (p + 2)).any fun j => j == 1) = A at *
  by_cases h11 : b < 11
  · have m2' := m2 h11
    cases W <;> cases X <;> cases A <;> (try simp at m1) <;> (try simp at m2') <;> first | exact fin | (simp only [h11, tup_take, tup_drop2, ha, hin, eC_ap, eV_ap, eB_ap, eU_ap, eAnd_ap, eOr_ap, tE_ap, tAnd_ap, tOr_ap, tNot_ap, eIf_ap, eCh_ap, eA0_ap, eAc_ap, eAs_ap, eTup_ap, eLs_ap, eOfL_ap, eIxO_ap, eP0_ap, ePs_ap, eSl_ap, iW_ap, iR1_ap, iR2_ap, iZp_ap, gN_ap, gNilD_ap, gConsD_ap, gTupD_ap, cYes_ap, sNil_ap, sSeq_ap, sIf_ap, sRet_ap, sRetN_ap, sSet_ap, sSetO_ap, sExp_ap, sBrk_ap, sCont_ap, sApp_ap, ePop_ap, sPut_ap, eCall_ap, eCallO_ap, eLenO_ap, sDk0_ap, sDput_ap, eSrtDk_ap, eDget_ap, eDin_ap, eRevO_ap, eLenS_ap, eIxS_ap, iSq_ap, nSeq_ap, nRet_ap, sDraws_ap, sAug_ap, sPar_ap, unE, reE, keepF, dIs, dNot, dNeg, dIsT, isTy, tyOf, rets, retsO, List.getElem?_cons_zero, List.getElem?_cons_succ, List.set_cons_zero, List.set_cons_succ, List.length_cons, List.length_nil, List.length_map, List.length_set, Nat.reduceAdd, Nat.reduceSub, Nat.reduceLT, Nat.reduceLeDiff, dAdd_i, dAdd_l, dAdd_t, dSub_i, dMul_i, dDiv_i, dModI_i, dLt_i, dLe_i, dGt_i, dGe_i, dEq_i, dNe_i, dEq_b, dNe_b, if_true, if_false, decide_true, decide_false, Bool.false_eq_true, Bool.not_true, Bool.not_false, and_true, true_and, and_self, or_true, true_or, reduceIte, Int.reduceNeg, Int.reducePow, Int.reduceLT, Int.reduceLE, Int.reduceGT, Int.reduceAdd, Int.reduceMul, Int.reduceSub, Int.reduceToNat, Nat.reducePow, Nat.reduceMul, Nat.reduceEqDiff, Int.reduceBEq, or_self, and_false, false_and, false_or, or_false, Bool.and_true, Bool.true_and, Bool.and_false, Bool.false_and, Bool.and_self, List.length_append, dAbs_i, Int.cast_ofNat_Int, beq_self_eq_true, String.reduceBEq, zip_l, zip_t, walk_l, walk_t, items_l, items_t, dLen_l, dLen_t, dTuple_l, dTuple_t, dList_l, dList_t, dInt_i, dSl_l, dSl_t, dIsNot_b, Bool.true_or, Bool.or_true, Bool.or_false, Bool.false_or]; exact fin) | (simp only [h11, tup_take, tup_drop2, ha, hin, eC_ap, eV_ap, eB_ap, eU_ap, eAnd_ap, eOr_ap, tE_ap, tAnd_ap, tOr_ap, tNot_ap, eIf_ap, eCh_ap, eA0_ap, eAc_ap, eAs_ap, eTup_ap, eLs_ap, eOfL_ap, eIxO_ap, eP0_ap, ePs_ap, eSl_ap, iW_ap, iR1_ap, iR2_ap, iZp_ap, gN_ap, gNilD_ap, gConsD_ap, gTupD_ap, cYes_ap, sNil_ap, sSeq_ap, sIf_ap, sRet_ap, sRetN_ap, sSet_ap, sSetO_ap, sExp_ap, sBrk_ap, sCont_ap, sApp_ap, ePop_ap, sPut_ap, eCall_ap, eCallO_ap, eLenO_ap, sDk0_ap, sDput_ap, eSrtDk_ap, eDget_ap, eDin_ap, eRevO_ap, eLenS_ap, eIxS_ap, iSq_ap, nSeq_ap, nRet_ap, sDraws_ap, sAug_ap, sPar_ap, unE, reE, keepF, dIs, dNot, dNeg, dIsT, isTy, tyOf, rets, retsO, List.getElem?_cons_zero, List.getElem?_cons_succ, List.set_cons_zero, List.set_cons_succ, List.length_cons, List.length_nil, List.length_map, List.length_set, Nat.reduceAdd, Nat.reduceSub, Nat.reduceLT, Nat.reduceLeDiff, dAdd_i, dAdd_l, dAdd_t, dSub_i, dMul_i, dDiv_i, dModI_i, dLt_i, dLe_i, dGt_i, dGe_i, dEq_i, dNe_i, dEq_b, dNe_b, if_true, if_false, decide_true, decide_false, Bool.false_eq_true, Bool.not_true, Bool.not_false, and_true, true_and, and_self, or_true, true_or, reduceIte, Int.reduceNeg, Int.reducePow, Int.reduceLT, Int.reduceLE, Int.reduceGT, Int.reduceAdd, Int.reduceMul, Int.reduceSub, Int.reduceToNat, Nat.reducePow, Nat.reduceMul, Nat.reduceEqDiff, Int.reduceBEq, or_self, and_false, false_and, false_or, or_false, Bool.and_true, Bool.true_and, Bool.and_false, Bool.false_and, Bool.and_self, List.length_append, dAbs_i, Int.cast_ofNat_Int, beq_self_eq_true, String.reduceBEq, zip_l, zip_t, walk_l, walk_t, items_l, items_t, dLen_l, dLen_t, dTuple_l, dTuple_t, dList_l, dList_t, dInt_i, dSl_l, dSl_t, dIsNot_b, Bool.true_or, Bool.or_true, Bool.or_false, Bool.false_or]; trace_state)
  · cases W <;> cases X <;> (try simp at m1) <;> first | exact fin | (simp only [h11, tup_take, tup_drop2, ha, hin, eC_ap, eV_ap, eB_ap, eU_ap, eAnd_ap, eOr_ap, tE_ap, tAnd_ap, tOr_ap, tNot_ap, eIf_ap, eCh_ap, eA0_ap, eAc_ap, eAs_ap, eTup_ap, eLs_ap, eOfL_ap, eIxO_ap, eP0_ap, ePs_ap, eSl_ap, iW_ap, iR1_ap, iR2_ap, iZp_ap, gN_ap, gNilD_ap, gConsD_ap, gTupD_ap, cYes_ap, sNil_ap, sSeq_ap, sIf_ap, sRet_ap, sRetN_ap, sSet_ap, sSetO_ap, sExp_ap, sBrk_ap, sCont_ap, sApp_ap, ePop_ap, sPut_ap, eCall_ap, eCallO_ap, eLenO_ap, sDk0_ap, sDput_ap, eSrtDk_ap, eDget_ap, eDin_ap, eRevO_ap, eLenS_ap, eIxS_ap, iSq_ap, nSeq_ap, nRet_ap, sDraws_ap, sAug_ap, sPar_ap, unE, reE, keepF, dIs, dNot, dNeg, dIsT, isTy, tyOf, rets, retsO, List.getElem?_cons_zero, List.getElem?_cons_succ, List.set_cons_zero, List.set_cons_succ, List.length_cons, List.length_nil, List.length_map, List.length_set, Nat.reduceAdd, Nat.reduceSub, Nat.reduceLT, Nat.reduceLeDiff, dAdd_i, dAdd_l, dAdd_t, dSub_i, dMul_i, dDiv_i, dModI_i, dLt_i, dLe_i, dGt_i, dGe_i, dEq_i, dNe_i, dEq_b, dNe_b, if_true, if_false, decide_true, decide_false, Bool.false_eq_true, Bool.not_true, Bool.not_false, and_true, true_and, and_self, or_true, true_or, reduceIte, Int.reduceNeg, Int.reducePow, Int.reduceLT, Int.reduceLE, Int.reduceGT, Int.reduceAdd, Int.reduceMul, Int.reduceSub, Int.reduceToNat, Nat.reducePow, Nat.reduceMul, Nat.reduceEqDiff, Int.reduceBEq, or_self, and_false, false_and, false_or, or_false, Bool.and_true, Bool.true_and, Bool.and_false, Bool.false_and, Bool.and_self, List.length_append, dAbs_i, Int.cast_ofNat_Int, beq_self_eq_true, String.reduceBEq, zip_l, zip_t, walk_l, walk_t, items_l, items_t, dLen_l, dLen_t, dTuple_l, dTuple_t, dList_l, dList_t, dInt_i, dSl_l, dSl_t, dIsNot_b, Bool.true_or, Bool.or_true, Bool.or_false, Bool.false_or]; exact fin) | (simp only [h11, tup_take, tup_drop2, ha, hin, eC_ap, eV_ap, eB_ap, eU_ap, eAnd_ap, eOr_ap, tE_ap, tAnd_ap, tOr_ap, tNot_ap, eIf_ap, eCh_ap, eA0_ap, eAc_ap, eAs_ap, eTup_ap, eLs_ap, eOfL_ap, eIxO_ap, eP0_ap, ePs_ap, eSl_ap, iW_ap, iR1_ap, iR2_ap, iZp_ap, gN_ap, gNilD_ap, gConsD_ap, gTupD_ap, cYes_ap, sNil_ap, sSeq_ap, sIf_ap, sRet_ap, sRetN_ap, sSet_ap, sSetO_ap, sExp_ap, sBrk_ap, sCont_ap, sApp_ap, ePop_ap, sPut_ap, eCall_ap, eCallO_ap, eLenO_ap, sDk0_ap, sDput_ap, eSrtDk_ap, eDget_ap, eDin_ap, eRevO_ap, eLenS_ap, eIxS_ap, iSq_ap, nSeq_ap, nRet_ap, sDraws_ap, sAug_ap, sPar_ap, unE, reE, keepF, dIs, dNot, dNeg, dIsT, isTy, tyOf, rets, retsO, List.getElem?_cons_zero, List.getElem?_cons_succ, List.set_cons_zero, List.set_cons_succ, List.length_cons, List.length_nil, List.length_map, List.length_set, Nat.reduceAdd, Nat.reduceSub, Nat.reduceLT, Nat.reduceLeDiff, dAdd_i, dAdd_l, dAdd_t, dSub_i, dMul_i, dDiv_i, dModI_i, dLt_i, dLe_i, dGt_i, dGe_i, dEq_i, dNe_i, dEq_b, dNe_b, if_true, if_false, decide_true, decide_false, Bool.false_eq_true, Bool.not_true, Bool.not_false, and_true, true_and, and_self, or_true, true_or, reduceIte, Int.reduceNeg, Int.reducePow, Int.reduceLT, Int.reduceLE, Int.reduceGT, Int.reduceAdd, Int.reduceMul, Int.reduceSub, Int.reduceToNat, Nat.reducePow, Nat.reduceMul, Nat.reduceEqDiff, Int.reduceBEq, or_self, and_false, false_and, false_or, or_false, Bool.and_true, Bool.true_and, Bool.and_false, Bool.false_and, Bool.and_self, List.length_append, dAbs_i, Int.cast_ofNat_Int, beq_self_eq_true, String.reduceBEq, zip_l, zip_t, walk_l, walk_t, items_l, items_t, dLen_l, dLen_t, dTuple_l, dTuple_t, dList_l, dList_t, dInt_i, dSl_l, dSl_t, dIsNot_b, Bool.true_or, Bool.or_true, Bool.or_false, Bool.false_or]; trace_state)
end K92

namespace K92
open PySem PySem.Spec PyProof.Rows L2 GxR DL
/-! ### the maths of shows_exchange -/
def M12 (ws : List Int) (b : Int) : Prop := ∀ (p : Nat) (hp : p < ws.length) (hq : p + 1 < ws.length), (wrongB b (ws[p] - ws[p + 1]) = true → exchB ws b p ws[p] ws[p + 1] = true) ∧
  (b < 11 → ((ws.take p ++ ws.drop (p + 2)).any fun j => j == 1) = true → exchB ws b p ws[p] ws[p + 1] = wrongB b (ws[p] - ws[p + 1]))
theorem sub_small {n : Nat} (h1 : 2 ≤ n) (h : n ≤ 10) : small62 ((n : Int) - 1) = true := small62_of (by omega) (by omega)
theorem seg_pl2 (s0 x2 : SV) (ws : List Int) (b : Int) (hb : 0 < b) (hb2 : b ≤ 100) (h2 : 2 ≤ ws.length) (h10 : ws.length ≤ 10) (M : M12 ws b) (Φ : Fl → Prop) (l : List Int) (x7 x8 x9 x11 x14 x15 : SV)
    (h : ∀ x10 x12 x13, Φ (.nx (EV s0 x2 ws b l x7 x8 x9 x10 x11 x12 x13 x14 x15))) (x10 x12 x13 : SV) :
    sFor (iR1 (eAc (eB dSub (eV 4) (eC (.int 1))) eA0)) (gN 10) pl2B (EV s0 x2 ws b l x7 x8 x9 x10 x11 x12 x13 x14 x15) Φ := by
  have hs := sub_small h2 h10
  rw [sFor_ap]
  simp only [EV, eC_ap, eV_ap, eB_ap, eU_ap, eAnd_ap, eOr_ap, tE_ap, tAnd_ap, tOr_ap, tNot_ap, eIf_ap, eCh_ap, eA0_ap, eAc_ap, eAs_ap, eTup_ap, eLs_ap, eOfL_ap, eIxO_ap, eP0_ap, ePs_ap, eSl_ap, iW_ap, iR1_ap, iR2_ap, iZp_ap, gN_ap, gNilD_ap, gConsD_ap, gTupD_ap, cYes_ap, sNil_ap, sSeq_ap, sIf_ap, sRet_ap, sRetN_ap, sSet_ap, sSetO_ap, sExp_ap, sBrk_ap, sCont_ap, sApp_ap, ePop_ap, sPut_ap, eCall_ap, eCallO_ap, eLenO_ap, sDk0_ap, sDput_ap, eSrtDk_ap, eDget_ap, eDin_ap, eRevO_ap, eLenS_ap, eIxS_ap, iSq_ap, nSeq_ap, nRet_ap, sDraws_ap, sAug_ap, sPar_ap, unE, reE, keepF, dIs, dNot, dNeg, dIsT, isTy, tyOf, rets, retsO, List.getElem?_cons_zero, List.getElem?_cons_succ, List.set_cons_zero, List.set_cons_succ, List.length_cons, List.length_nil, List.length_map, List.length_set, Nat.reduceAdd, Nat.reduceSub, Nat.reduceLT, Nat.reduceLeDiff, dAdd_i, dAdd_l, dAdd_t, dSub_i, dMul_i, dDiv_i, dModI_i, dLt_i, dLe_i, dGt_i, dGe_i, dEq_i, dNe_i, dEq_b, dNe_b, if_true, if_false, decide_true, decide_false, Bool.false_eq_true, Bool.not_true, Bool.not_false, and_true, true_and, and_self, or_true, true_or, reduceIte, Int.reduceNeg, Int.reducePow, Int.reduceLT, Int.reduceLE, Int.reduceGT, Int.reduceAdd, Int.reduceMul, Int.reduceSub, Int.reduceToNat, Nat.reducePow, Nat.reduceMul, Nat.reduceEqDiff, Int.reduceBEq, or_self, and_false, false_and, false_or, or_false, Bool.and_true, Bool.true_and, Bool.and_false, Bool.false_and, Bool.and_self, List.length_append, dAbs_i, Int.cast_ofNat_Int, beq_self_eq_true, String.reduceBEq, zip_l, zip_t, walk_l, walk_t, items_l, items_t, dLen_l, dLen_t, dTuple_l, dTuple_t, dList_l, dList_t, dInt_i, dSl_l, dSl_t, dIsNot_b, Bool.true_or, Bool.or_true, Bool.or_false, Bool.false_or, hs]
  refine wFor_pass (fun env => ∃ x10 x12 x13, env = EV s0 x2 ws b l x7 x8 x9 x10 x11 x12 x13 x14 x15) _ _ ⟨x10, x12, x13, rfl⟩ ?_ ?_
  · rintro d hd env ⟨y10, y12, y13, rfl⟩ K hK
    obtain ⟨i, rfl, h0, h1⟩ := rng_mem hd
    obtain ⟨p, rfl⟩ : ∃ p : Nat, i = (p : Int) := ⟨i.toNat, by omega⟩
    have hp : p < ws.length := by omega
    have hq : p + 1 < ws.length := by omega
    exact ⟨EV s0 x2 ws b l x7 x8 x9 (.fz (.int (p : Int))) x11 y12 y13 x14 x15, rfl, pl2_step s0 x2 ws b hb hb2 h10 p hp hq (M p hp hq).1 (M p hp hq).2 _ l x7 x8 x9 x11 y12 y13 x14 x15 fun z12 z13 => hK _ ⟨_, _, _, rfl⟩⟩
  · rintro env ⟨y10, y12, y13, rfl⟩
    exact h _ _ _
/-- residues that the other weights reach -/
theorem mem_ins {r x : Int} {ks : List Int} : x ∈ insK ks r ↔ x = r ∨ x ∈ ks := by
  unfold insK
  split
  · rename_i h
    obtain ⟨k, hk, e⟩ := List.any_eq_true.mp h
    have e2 : k = r := of_decide_eq_true e
    subst e2
    exact ⟨.inr, fun z => z.elim (fun e => by rw [e]; exact hk) id⟩
  · rw [List.mem_append, List.mem_singleton]
    exact ⟨fun z => z.elim .inr .inl, fun z => z.elim .inr .inl⟩
theorem mem_items {b w rest x : Int} : ∀ {is ks : List Int}, x ∈ is.foldl (item1 b w rest) ks ↔ (∃ i ∈ is, x = (rest + i * w) % b) ∨ x ∈ ks
  | [], ks => by simp
  | i :: is, ks => by
    rw [List.foldl_cons, mem_items]
    unfold item1
    rw [mem_ins]
    constructor
    · rintro (⟨j, hj, e⟩ | e | e)
      · exact .inl ⟨j, List.mem_cons_of_mem _ hj, e⟩
      · exact .inl ⟨i, List.mem_cons_self, e⟩
      · exact .inr e
    · rintro (⟨j, hj, e⟩ | e)
      · rcases List.mem_cons.mp hj with rfl | hj
        · exact .inr (.inl e)
        · exact .inl ⟨j, hj, e⟩
      · exact .inr (.inr e)
theorem mem_keys {b w x : Int} : ∀ {fs ks : List Int}, x ∈ fs.foldl (fun ks rest => digits.foldl (item1 b w rest) ks) ks ↔ (∃ f ∈ fs, ∃ i ∈ digits, x = (f + i * w) % b) ∨ x ∈ ks
  | [], ks => by simp
  | f :: fs, ks => by
    rw [List.foldl_cons, mem_keys, mem_items]
    constructor
    · rintro (⟨g, hg, i, hi, e⟩ | ⟨i, hi, e⟩ | e)
      · exact .inl ⟨g, List.mem_cons_of_mem _ hg, i, hi, e⟩
      · exact .inl ⟨f, List.mem_cons_self, i, hi, e⟩
      · exact .inr e
    · rintro (⟨g, hg, i, hi, e⟩ | e)
      · rcases List.mem_cons.mp hg with rfl | hg
        · exact .inr (.inl ⟨i, hi, e⟩)
        · exact .inl ⟨g, hg, i, hi, e⟩
      · exact .inr (.inr e)
theorem dot_cons' (n w : Int) (ns ws : List Int) : dot (n :: ns) (w :: ws) = n * w + dot ns ws := dot_cons n w ns ws
theorem mem_fold {b : Int} : ∀ {us fs : List Int} {x : Int}, x ∈ us.foldl (fun found w => sortI (keysOf b w found)) fs ↔ (us = [] ∧ x ∈ fs) ∨ (us ≠ [] ∧ ∃ f ∈ fs, ∃ is : List Int, is.length = us.length ∧ (∀ i ∈ is, i ∈ digits) ∧ x = (f + dot is us) % b)
  | [], fs, x => by simp
  | w :: us, fs, x => by
    rw [List.foldl_cons, mem_fold]
    have hm : ∀ y, y ∈ sortI (keysOf b w fs) ↔ ∃ f ∈ fs, ∃ i ∈ digits, y = (f + i * w) % b := fun y => by
      rw [(sortI_perm _).mem_iff]
      show y ∈ fs.foldl (fun ks rest => digits.foldl (item1 b w rest) ks) [] ↔ _
      rw [mem_keys]
      simp
    constructor
    · rintro (⟨rfl, h⟩ | ⟨hu, y, hy, is, h1, h2, h3⟩)
      · obtain ⟨f, hf, i, hi, e⟩ := (hm x).mp h
        refine .inr ⟨by simp, f, hf, [i], rfl, by simpa using hi, ?_⟩
        rw [dot_cons', dot_nil, e, Int.add_zero]
      · obtain ⟨f, hf, i, hi, e⟩ := (hm y).mp hy
        refine .inr ⟨by simp, f, hf, i :: is, by rw [List.length_cons, List.length_cons, h1], fun j hj => ?_, ?_⟩
        · rcases List.mem_cons.mp hj with rfl | hj
          · exact hi
          · exact h2 j hj
        · rw [dot_cons', h3, e, Int.emod_add_emod, Int.add_assoc]
    · rintro (⟨h, _⟩ | ⟨_, f, hf, is, h1, h2, h3⟩)
      · cases h
      · cases is with
        | nil => simp at h1
        | cons i is =>
          have hi := h2 i List.mem_cons_self
          rw [dot_cons'] at h3
          cases us with
          | nil =>
            refine .inl ⟨rfl, (hm x).mpr ⟨f, hf, i, hi, ?_⟩⟩
            have : is = [] := List.eq_nil_of_length_eq_zero (by simpa using h1)
            subst this
            rw [h3, dot_nil, Int.add_zero]
          | cons u us =>
            refine .inr ⟨by simp, (f + i * w) % b, (hm _).mpr ⟨f, hf, i, hi, rfl⟩, is, by simpa using h1, fun j hj => h2 j (List.mem_cons_of_mem _ hj), ?_⟩
            rw [h3, Int.emod_add_emod, Int.add_assoc]
end K92

namespace K92
open PySem PySem.Spec PyProof.Rows L2 GxR DL
theorem mem_rests {b : Int} {us : List Int} {x : Int} : x ∈ restsOf b us ↔ ∃ is : List Int, is.length = us.length ∧ (∀ i ∈ is, i ∈ digits) ∧ x = dot is us % b := by
  unfold restsOf
  rw [mem_fold]
  constructor
  · rintro (⟨rfl, h⟩ | ⟨hu, f, hf, is, h1, h2, h3⟩)
    · refine ⟨[], rfl, by simp, ?_⟩
      rw [dot_nil, List.mem_singleton.mp h]
      simp
    · rw [List.mem_singleton.mp hf, Int.zero_add] at h3
      exact ⟨is, h1, h2, h3⟩
  · rintro ⟨is, h1, h2, h3⟩
    cases us with
    | nil =>
      have : is = [] := List.eq_nil_of_length_eq_zero h1
      subst this
      rw [dot_nil] at h3
      exact .inl ⟨rfl, by rw [h3]; simp⟩
    | cons u us => exact .inr ⟨by simp, 0, by simp, is, h1, h2, by rw [Int.zero_add]; exact h3⟩
theorem dot_zero : ∀ us : List Int, dot (us.map fun _ => (0 : Int)) us = 0
  | [] => rfl
  | u :: us => by rw [List.map_cons, dot_cons, dot_zero us]; omega
theorem reach {us : List Int} (h : (1 : Int) ∈ us) {r : Int} (hr : r ∈ digits) : ∃ is : List Int, is.length = us.length ∧ (∀ i ∈ is, i ∈ digits) ∧ dot is us = r := by
  induction us with
  | nil => cases h
  | cons u us ih =>
    have z : (0 : Int) ∈ digits := by decide
    rcases List.mem_cons.mp h with e | h
    · refine ⟨r :: us.map fun _ => 0, by simp, fun i hi => ?_, ?_⟩
      · rcases List.mem_cons.mp hi with rfl | hi
        · exact hr
        · obtain ⟨_, _, rfl⟩ := List.mem_map.mp hi
          exact z
      · rw [dot_cons, dot_zero, ← e]
        omega
    · obtain ⟨is, h1, h2, h3⟩ := ih h
      refine ⟨0 :: is, by simp [h1], fun i hi => ?_, by rw [dot_cons, h3]; omega⟩
      rcases List.mem_cons.mp hi with rfl | hi
      · exact z
      · exact h2 i hi
theorem steps_mem {k : Int} : k ∈ steps ↔ 1 ≤ k ∧ k ≤ 9 := by
  refine ⟨fun h => steps_small k h, fun ⟨h1, h2⟩ => ?_⟩
  unfold steps
  simp only [List.mem_cons, List.not_mem_nil, or_false]
  omega
theorem wrong_iff {b w : Int} : wrongB b w = false ↔ ∃ k, 1 ≤ k ∧ k ≤ 9 ∧ b ∣ w * k := by
  unfold wrongB
  rw [List.all_eq_false]
  constructor
  · rintro ⟨k, hk, h⟩
    have h2 : (w * k % b == 0) = true := by
      cases e : (w * k % b == 0)
      · rw [e] at h; exact absurd rfl h
      · rfl
    exact ⟨k, (steps_mem.mp hk).1, (steps_mem.mp hk).2, Int.dvd_of_emod_eq_zero (beq_iff_eq.mp h2)⟩
  · rintro ⟨k, h1, h2, h3⟩
    refine ⟨k, steps_mem.mpr ⟨h1, h2⟩, ?_⟩
    rw [Int.emod_eq_zero_of_dvd h3]
    simp
theorem swap_dvd {b a c i j : Int} : (i * a + j * c) % b = (j * a + i * c) % b ↔ b ∣ (a - c) * (i - j) := by
  have e : (i * a + j * c) - (j * a + i * c) = (a - c) * (i - j) := by
    rw [Int.sub_mul, Int.mul_sub, Int.mul_sub, Int.mul_comm i a, Int.mul_comm j a, Int.mul_comm j c, Int.mul_comm i c]
    omega
  rw [Int.emod_eq_emod_iff_emod_sub_eq_zero, e]
  exact ⟨Int.dvd_of_emod_eq_zero, Int.emod_eq_zero_of_dvd⟩
theorem exch_iff {ws : List Int} {b : Int} {p : Nat} {a c : Int} : exchB ws b p a c = false ↔ ∃ i j, i ∈ digits ∧ j ∈ digits ∧ i ≠ j ∧ b ∣ (a - c) * (i - j) ∧ (b - (i * a + j * c) % b) % b ∈ restsOf b (ws.take p ++ ws.drop (p + 2)) := by
  unfold exchB
  rw [List.all_eq_false]
  constructor
  · rintro ⟨i, hi, h⟩
    have h2 : (digits.all fun j => !(clash b a c (restsOf b (ws.take p ++ ws.drop (p + 2))) i j)) = false := by simpa using h
    obtain ⟨j, hj, h3⟩ := List.all_eq_false.mp h2
    have h7 : clash b a c (restsOf b (ws.take p ++ ws.drop (p + 2))) i j = true := by
      cases hq : clash b a c (restsOf b (ws.take p ++ ws.drop (p + 2))) i j
      · rw [hq] at h3
        exact absurd rfl h3
      · rfl
    unfold clash at h7
    rw [Bool.and_eq_true, Bool.and_eq_true] at h7
    obtain ⟨⟨h4, h5⟩, h6⟩ := h7
    obtain ⟨r, hr, e⟩ := List.any_eq_true.mp h6
    rw [beq_iff_eq] at e h5
    subst e
    exact ⟨i, j, hi, hj, by simpa using h4, swap_dvd.mp h5, hr⟩
  · rintro ⟨i, j, hi, hj, hne, hd, hr⟩
    refine ⟨i, hi, ?_⟩
    have h2 : (digits.all fun j => !(clash b a c (restsOf b (ws.take p ++ ws.drop (p + 2))) i j)) = false := by
      rw [List.all_eq_false]
      refine ⟨j, hj, ?_⟩
      have h6 : ((restsOf b (ws.take p ++ ws.drop (p + 2))).any fun r => r == (b - (i * a + j * c) % b) % b) = true := List.any_eq_true.mpr ⟨_, hr, by simp⟩
      have h5 : ((i * a + j * c) % b == (j * a + i * c) % b) = true := beq_iff_eq.mpr (swap_dvd.mpr hd)
      have h4 : (i == j) = false := by rw [beq_eq_false_iff_ne]; exact hne
      unfold clash
      rw [h4, h5, h6]
      decide
    rw [h2]
    decide
theorem maths12 {ws : List Int} {b : Int} (hb : 0 < b) : M12 ws b := by
  intro p hp hq
  have one : wrongB b (ws[p] - ws[p + 1]) = true → exchB ws b p ws[p] ws[p + 1] = true := fun h => by
    cases e : exchB ws b p ws[p] ws[p + 1] with
    | true => rfl
    | false =>
      obtain ⟨i, j, hi, hj, hne, hd, _⟩ := exch_iff.mp e
      have hi2 := dig_digits.mp hi
      have hj2 := dig_digits.mp hj
      have : wrongB b (ws[p] - ws[p + 1]) = false := by
        rcases Int.lt_or_gt_of_ne hne with hlt | hgt
        · refine wrong_iff.mpr ⟨j - i, by omega, by omega, ?_⟩
          have e2 : (ws[p] - ws[p + 1]) * (j - i) = -((ws[p] - ws[p + 1]) * (i - j)) := by rw [← Int.mul_neg]; congr 1; omega
          rw [e2]
          exact Int.dvd_neg.mpr hd
        · exact wrong_iff.mpr ⟨i - j, by omega, by omega, hd⟩
      rw [this] at h
      cases h
  refine ⟨one, fun h11 h1 => ?_⟩
  cases e : wrongB b (ws[p] - ws[p + 1]) with
  | true => exact one e
  | false =>
    obtain ⟨k, k1, k2, hd⟩ := wrong_iff.mp e
    have hin : (1 : Int) ∈ ws.take p ++ ws.drop (p + 2) := by
      obtain ⟨j, hj, e⟩ := List.any_eq_true.mp h1
      rw [beq_iff_eq] at e
      rw [← e]
      exact hj
    refine exch_iff.mpr ⟨k, 0, dig_digits.mpr ⟨by omega, by omega⟩, by decide, by omega, by rw [Int.sub_zero]; exact hd, ?_⟩
    have hm := mod_rng (x := b - (k * ws[p] + 0 * ws[p + 1]) % b) hb
    obtain ⟨is, i1, i2, i3⟩ := reach hin (r := (b - (k * ws[p] + 0 * ws[p + 1]) % b) % b) (dig_digits.mpr ⟨hm.1, by omega⟩)
    refine mem_rests.mpr ⟨is, i1, i2, ?_⟩
    rw [i3, Int.emod_emod_of_dvd _ (Int.dvd_refl b)]
end K92

namespace K92
open PySem PySem.Spec PyProof.Rows L2 GxR DL
/-! ### the rows of fewer than four items -/
def at0 (r : List Int) (p : Nat) : Int := (r[p]?).getD 0
theorem ix_at {r : List Int} {p : Nat} (h : p < r.length) : dIx (tupI r) (.int (p : Int)) = some (.int (at0 r p)) := by
  rw [ix_tup h]
  unfold at0
  rw [List.getElem?_eq_getElem h]
  rfl
theorem ix_at1 {r : List Int} {p : Nat} (h : p + 1 < r.length) : dIx (tupI r) (.int ((p : Int) + 1)) = some (.int (at0 r (p + 1))) := ix_at h
def chg (r : List Int) (p : Nat) (i : Int) : List Int := r.take p ++ [i] ++ r.drop (p + 1)
theorem chg_len {r : List Int} {p : Nat} {i : Int} (h : p < r.length) : (chg r p i).length = r.length := by
  unfold chg
  rw [List.length_append, List.length_append, List.length_take, List.length_drop]
  simp
  omega
theorem dig_iff {r : List Int} : dig r = true ↔ ∀ x ∈ r, x ∈ digits := by
  refine ⟨fun h x hx => dig_digits.mpr (dig_mem h hx), fun h => List.all_eq_true.mpr fun x hx => ?_⟩
  have := digits_small x (h x hx)
  simp [this]
theorem chg_dig {r : List Int} {p : Nat} {i : Int} (h : dig r = true) (hi : i ∈ digits) : dig (chg r p i) = true := dig_iff.mpr fun x hx => by
  unfold chg at hx
  rcases List.mem_append.mp hx with hx | hx
  · rcases List.mem_append.mp hx with hx | hx
    · exact dig_iff.mp h x (List.mem_of_mem_take hx)
    · rw [List.mem_singleton.mp hx]; exact hi
  · exact dig_iff.mp h x (List.mem_of_mem_drop hx)
theorem chg_eq {r : List Int} {p : Nat} {i : Int} (h : r.length ≤ 10) : mf__law_changed [tupI r, .int (p : Int), .int i] = some (tupI (chg r p i)) := by
  unfold mf__law_changed
  simp only [asTup_eq]
  rw [if_pos ⟨Int.natCast_nonneg p, h⟩]
  rfl
theorem ne_nil (xs : List Int) : dNe (.list (xs.map .int)) (.list []) = some (.bool (!decide (xs = []))) := by
  have h : SeqAt.shaped (.list ([] : List D)) = true := rfl
  unfold dNe
  rw [shaped_ints, h]
  cases xs <;> rfl
def itemsB (ws : List Int) (b : Int) (p : Nat) (r : List Int) : List Int := digits.filter fun i => !(i == at0 r p) && R ws b (chg r p i)
theorem seg_items (ws : List Int) (b : Int) (hb : 0 < b) (h10 : ws.length ≤ 10) (p : Nat) (r : List Int) (hl : r.length = ws.length) (hp : p < ws.length) (hd : dig r = true)
    (n0 n1 n2 n3 n4 n6 n7 n8 n9 n11 n12 n13 n14 n15 n16 n17 n19 n21 : SV) : ∀ is : List Int, (∀ i ∈ is, i ∈ digits) →
    cLoop [18] (gN 18) (DL.tAnd (tE (eB dNe (eV 18) (eB dIx (eV 20) (eV 10)))) (tE (eCall mf__law_right (eAc (eV 5) (eAc (eCall mf__law_changed (eAc (eV 20) (eAc (eV 10) (eAc (eV 18) eA0)))) eA0))))) (eV 18) (is.map .int)
      [n0, n1, n2, n3, n4, .fz (sch ws b), n6, n7, n8, n9, .fz (.int (p : Int)), n11, n12, n13, n14, n15, n16, n17, .un, n19, .fz (tupI r), n21] =
      some ((is.filter fun i => !(i == at0 r p) && R ws b (chg r p i)).map .int, [n0, n1, n2, n3, n4, .fz (sch ws b), n6, n7, n8, n9, .fz (.int (p : Int)), n11, n12, n13, n14, n15, n16, n17, .un, n19, .fz (tupI r), n21])
  | [], _ => rfl
  | i :: is, h => by
    have ih := seg_items ws b hb h10 p r hl hp hd n0 n1 n2 n3 n4 n6 n7 n8 n9 n11 n12 n13 n14 n15 n16 n17 n19 n21 is fun j hj => h j (List.mem_cons_of_mem _ hj)
    have hi := h i List.mem_cons_self
    have hp2 : p < r.length := by omega
    have hc := chg_eq (r := r) (p := p) (i := i) (by omega)
    have hr : mf__law_right [sch ws b, tupI (chg r p i)] = some (.bool (R ws b (chg r p i))) := right_eq hb (by rw [chg_len hp2, hl]) h10 (chg_dig hd hi)
    have hx := ix_at hp2
    rw [List.map_cons, cLoop]
    simp only [eC_ap, eV_ap, eB_ap, eU_ap, eAnd_ap, eOr_ap, tE_ap, tAnd_ap, tOr_ap, tNot_ap, eIf_ap, eCh_ap, eA0_ap, eAc_ap, eAs_ap, eTup_ap, eLs_ap, eOfL_ap, eIxO_ap, eP0_ap, ePs_ap, eSl_ap, iW_ap, iR1_ap, iR2_ap, iZp_ap, gN_ap, gNilD_ap, gConsD_ap, gTupD_ap, cYes_ap, sNil_ap, sSeq_ap, sIf_ap, sRet_ap, sRetN_ap, sSet_ap, sSetO_ap, sExp_ap, sBrk_ap, sCont_ap, sApp_ap, ePop_ap, sPut_ap, eCall_ap, eCallO_ap, eLenO_ap, sDk0_ap, sDput_ap, eSrtDk_ap, eDget_ap, eDin_ap, eRevO_ap, eLenS_ap, eIxS_ap, iSq_ap, nSeq_ap, nRet_ap, sDraws_ap, sAug_ap, sPar_ap, unE, reE, keepF, dIs, dNot, dNeg, dIsT, isTy, tyOf, rets, retsO, List.getElem?_cons_zero, List.getElem?_cons_succ, List.set_cons_zero, List.set_cons_succ, List.length_cons, List.length_nil, List.length_map, List.length_set, Nat.reduceAdd, Nat.reduceSub, Nat.reduceLT, Nat.reduceLeDiff, dAdd_i, dAdd_l, dAdd_t, dSub_i, dMul_i, dDiv_i, dModI_i, dLt_i, dLe_i, dGt_i, dGe_i, dEq_i, dNe_i, dEq_b, dNe_b, if_true, if_false, decide_true, decide_false, Bool.false_eq_true, Bool.not_true, Bool.not_false, and_true, true_and, and_self, or_true, true_or, reduceIte, Int.reduceNeg, Int.reducePow, Int.reduceLT, Int.reduceLE, Int.reduceGT, Int.reduceAdd, Int.reduceMul, Int.reduceSub, Int.reduceToNat, Nat.reducePow, Nat.reduceMul, Nat.reduceEqDiff, Int.reduceBEq, or_self, and_false, false_and, false_or, or_false, Bool.and_true, Bool.true_and, Bool.and_false, Bool.false_and, Bool.and_self, List.length_append, dAbs_i, Int.cast_ofNat_Int, beq_self_eq_true, String.reduceBEq, zip_l, zip_t, walk_l, walk_t, items_l, items_t, dLen_l, dLen_t, dTuple_l, dTuple_t, dList_l, dList_t, dInt_i, dSl_l, dSl_t, dIsNot_b, Bool.true_or, Bool.or_true, Bool.or_false, Bool.false_or, hx, hc, hr]
    rw [List.filter_cons]
    cases e1 : (i == at0 r p)
    · cases hR : R ws b (chg r p i)
      · simp only [e1, hr, hc, hR, ih, eC_ap, eV_ap, eB_ap, eU_ap, eAnd_ap, eOr_ap, tE_ap, tAnd_ap, tOr_ap, tNot_ap, eIf_ap, eCh_ap, eA0_ap, eAc_ap, eAs_ap, eTup_ap, eLs_ap, eOfL_ap, eIxO_ap, eP0_ap, ePs_ap, eSl_ap, iW_ap, iR1_ap, iR2_ap, iZp_ap, gN_ap, gNilD_ap, gConsD_ap, gTupD_ap, cYes_ap, sNil_ap, sSeq_ap, sIf_ap, sRet_ap, sRetN_ap, sSet_ap, sSetO_ap, sExp_ap, sBrk_ap, sCont_ap, sApp_ap, ePop_ap, sPut_ap, eCall_ap, eCallO_ap, eLenO_ap, sDk0_ap, sDput_ap, eSrtDk_ap, eDget_ap, eDin_ap, eRevO_ap, eLenS_ap, eIxS_ap, iSq_ap, nSeq_ap, nRet_ap, sDraws_ap, sAug_ap, sPar_ap, unE, reE, keepF, dIs, dNot, dNeg, dIsT, isTy, tyOf, rets, retsO, List.getElem?_cons_zero, List.getElem?_cons_succ, List.set_cons_zero, List.set_cons_succ, List.length_cons, List.length_nil, List.length_map, List.length_set, Nat.reduceAdd, Nat.reduceSub, Nat.reduceLT, Nat.reduceLeDiff, dAdd_i, dAdd_l, dAdd_t, dSub_i, dMul_i, dDiv_i, dModI_i, dLt_i, dLe_i, dGt_i, dGe_i, dEq_i, dNe_i, dEq_b, dNe_b, if_true, if_false, decide_true, decide_false, Bool.false_eq_true, Bool.not_true, Bool.not_false, and_true, true_and, and_self, or_true, true_or, reduceIte, Int.reduceNeg, Int.reducePow, Int.reduceLT, Int.reduceLE, Int.reduceGT, Int.reduceAdd, Int.reduceMul, Int.reduceSub, Int.reduceToNat, Nat.reducePow, Nat.reduceMul, Nat.reduceEqDiff, Int.reduceBEq, or_self, and_false, false_and, false_or, or_false, Bool.and_true, Bool.true_and, Bool.and_false, Bool.false_and, Bool.and_self, List.length_append, dAbs_i, Int.cast_ofNat_Int, beq_self_eq_true, String.reduceBEq, zip_l, zip_t, walk_l, walk_t, items_l, items_t, dLen_l, dLen_t, dTuple_l, dTuple_t, dList_l, dList_t, dInt_i, dSl_l, dSl_t, dIsNot_b, Bool.true_or, Bool.or_true, Bool.or_false, Bool.false_or]
      · simp only [e1, hr, hc, hR, ih, eC_ap, eV_ap, eB_ap, eU_ap, eAnd_ap, eOr_ap, tE_ap, tAnd_ap, tOr_ap, tNot_ap, eIf_ap, eCh_ap, eA0_ap, eAc_ap, eAs_ap, eTup_ap, eLs_ap, eOfL_ap, eIxO_ap, eP0_ap, ePs_ap, eSl_ap, iW_ap, iR1_ap, iR2_ap, iZp_ap, gN_ap, gNilD_ap, gConsD_ap, gTupD_ap, cYes_ap, sNil_ap, sSeq_ap, sIf_ap, sRet_ap, sRetN_ap, sSet_ap, sSetO_ap, sExp_ap, sBrk_ap, sCont_ap, sApp_ap, ePop_ap, sPut_ap, eCall_ap, eCallO_ap, eLenO_ap, sDk0_ap, sDput_ap, eSrtDk_ap, eDget_ap, eDin_ap, eRevO_ap, eLenS_ap, eIxS_ap, iSq_ap, nSeq_ap, nRet_ap, sDraws_ap, sAug_ap, sPar_ap, unE, reE, keepF, dIs, dNot, dNeg, dIsT, isTy, tyOf, rets, retsO, List.getElem?_cons_zero, List.getElem?_cons_succ, List.set_cons_zero, List.set_cons_succ, List.length_cons, List.length_nil, List.length_map, List.length_set, Nat.reduceAdd, Nat.reduceSub, Nat.reduceLT, Nat.reduceLeDiff, dAdd_i, dAdd_l, dAdd_t, dSub_i, dMul_i, dDiv_i, dModI_i, dLt_i, dLe_i, dGt_i, dGe_i, dEq_i, dNe_i, dEq_b, dNe_b, if_true, if_false, decide_true, decide_false, Bool.false_eq_true, Bool.not_true, Bool.not_false, and_true, true_and, and_self, or_true, true_or, reduceIte, Int.reduceNeg, Int.reducePow, Int.reduceLT, Int.reduceLE, Int.reduceGT, Int.reduceAdd, Int.reduceMul, Int.reduceSub, Int.reduceToNat, Nat.reducePow, Nat.reduceMul, Nat.reduceEqDiff, Int.reduceBEq, or_self, and_false, false_and, false_or, or_false, Bool.and_true, Bool.true_and, Bool.and_false, Bool.false_and, Bool.and_self, List.length_append, dAbs_i, Int.cast_ofNat_Int, beq_self_eq_true, String.reduceBEq, zip_l, zip_t, walk_l, walk_t, items_l, items_t, dLen_l, dLen_t, dTuple_l, dTuple_t, dList_l, dList_t, dInt_i, dSl_l, dSl_t, dIsNot_b, Bool.true_or, Bool.or_true, Bool.or_false, Bool.false_or, List.map_cons]
    · simp only [e1, ih, eC_ap, eV_ap, eB_ap, eU_ap, eAnd_ap, eOr_ap, tE_ap, tAnd_ap, tOr_ap, tNot_ap, eIf_ap, eCh_ap, eA0_ap, eAc_ap, eAs_ap, eTup_ap, eLs_ap, eOfL_ap, eIxO_ap, eP0_ap, ePs_ap, eSl_ap, iW_ap, iR1_ap, iR2_ap, iZp_ap, gN_ap, gNilD_ap, gConsD_ap, gTupD_ap, cYes_ap, sNil_ap, sSeq_ap, sIf_ap, sRet_ap, sRetN_ap, sSet_ap, sSetO_ap, sExp_ap, sBrk_ap, sCont_ap, sApp_ap, ePop_ap, sPut_ap, eCall_ap, eCallO_ap, eLenO_ap, sDk0_ap, sDput_ap, eSrtDk_ap, eDget_ap, eDin_ap, eRevO_ap, eLenS_ap, eIxS_ap, iSq_ap, nSeq_ap, nRet_ap, sDraws_ap, sAug_ap, sPar_ap, unE, reE, keepF, dIs, dNot, dNeg, dIsT, isTy, tyOf, rets, retsO, List.getElem?_cons_zero, List.getElem?_cons_succ, List.set_cons_zero, List.set_cons_succ, List.length_cons, List.length_nil, List.length_map, List.length_set, Nat.reduceAdd, Nat.reduceSub, Nat.reduceLT, Nat.reduceLeDiff, dAdd_i, dAdd_l, dAdd_t, dSub_i, dMul_i, dDiv_i, dModI_i, dLt_i, dLe_i, dGt_i, dGe_i, dEq_i, dNe_i, dEq_b, dNe_b, if_true, if_false, decide_true, decide_false, Bool.false_eq_true, Bool.not_true, Bool.not_false, and_true, true_and, and_self, or_true, true_or, reduceIte, Int.reduceNeg, Int.reducePow, Int.reduceLT, Int.reduceLE, Int.reduceGT, Int.reduceAdd, Int.reduceMul, Int.reduceSub, Int.reduceToNat, Nat.reducePow, Nat.reduceMul, Nat.reduceEqDiff, Int.reduceBEq, or_self, and_false, false_and, false_or, or_false, Bool.and_true, Bool.true_and, Bool.and_false, Bool.false_and, Bool.and_self, List.length_append, dAbs_i, Int.cast_ofNat_Int, beq_self_eq_true, String.reduceBEq, zip_l, zip_t, walk_l, walk_t, items_l, items_t, dLen_l, dLen_t, dTuple_l, dTuple_t, dList_l, dList_t, dInt_i, dSl_l, dSl_t, dIsNot_b, Bool.true_or, Bool.or_true, Bool.or_false, Bool.false_or]
theorem seg_bad1 (ws : List Int) (b : Int) (hb : 0 < b) (h10 : ws.length ≤ 10) (p : Nat) (hp : p < ws.length)
    (n0 n1 n2 n3 n4 n6 n7 n8 n9 n11 n12 n13 n14 n15 n16 n17 n19 n21 : SV) : ∀ rs : List (List Int), (∀ r ∈ rs, r.length = ws.length ∧ dig r = true) →
    cLoop [20] (gN 20) (tE (eB dNe (eOfL (cC [18] (iR1 (eAc (eC (.int 10)) eA0)) (gN 18) (DL.tAnd (tE (eB dNe (eV 18) (eB dIx (eV 20) (eV 10)))) (tE (eCall mf__law_right (eAc (eV 5) (eAc (eCall mf__law_changed (eAc (eV 20) (eAc (eV 10) (eAc (eV 18) eA0)))) eA0))))) (eV 18))) (eOfL (eLs eA0)))) (eV 20) (rs.map tupI)
      [n0, n1, n2, n3, n4, .fz (sch ws b), n6, n7, n8, n9, .fz (.int (p : Int)), n11, n12, n13, n14, n15, n16, n17, .un, n19, .un, n21] =
      some ((rs.filter fun r => !decide (itemsB ws b p r = [])).map tupI, [n0, n1, n2, n3, n4, .fz (sch ws b), n6, n7, n8, n9, .fz (.int (p : Int)), n11, n12, n13, n14, n15, n16, n17, .un, n19, .un, n21])
  | [], _ => rfl
  | r :: rs, h => by
    have ih := seg_bad1 ws b hb h10 p hp n0 n1 n2 n3 n4 n6 n7 n8 n9 n11 n12 n13 n14 n15 n16 n17 n19 n21 rs fun j hj => h j (List.mem_cons_of_mem _ hj)
    have hr := h r List.mem_cons_self
    have hi := seg_items ws b hb h10 p r hr.1 hp hr.2 n0 n1 n2 n3 n4 n6 n7 n8 n9 n11 n12 n13 n14 n15 n16 n17 n19 n21 digits fun _ => id
    have h62 : small62 10 = true := s62 (by decide) (by decide)
    have z0 : 0 ≤ sizeLine := Nat.zero_le _
    have hfl : (digits.filter fun i => !(i == at0 r p) && R ws b (chg r p i)).length ≤ sizeLine := line_small (Nat.le_trans (List.length_filter_le _ digits) (by decide))
    have hn := ne_nil (itemsB ws b p r)
    unfold itemsB at hn
    rw [List.map_cons, cLoop]
    simp only [gN_ap, List.length_cons, List.length_nil, Nat.reduceAdd, Nat.reduceLT, if_true, tE_ap, eB_ap, eOfL_ap, cC_ap, iR1_ap, eAc_ap, eA0_ap, eC_ap, h62, rng10, unE, List.set_cons_succ, List.set_cons_zero, hi, hfl, List.length_map, eLs_ap, z0, hn, reE, keepF, List.getElem?_cons_succ, List.getElem?_cons_zero]
    rw [List.filter_cons]
    have ex : itemsB ws b p r = digits.filter fun i => !(i == at0 r p) && R ws b (chg r p i) := rfl
    rw [ex]
    cases hR : (!decide ((digits.filter fun i => !(i == at0 r p) && R ws b (chg r p i)) = []))
    · simp only [ih, eC_ap, eV_ap, eB_ap, eU_ap, eAnd_ap, eOr_ap, tE_ap, tAnd_ap, tOr_ap, tNot_ap, eIf_ap, eCh_ap, eA0_ap, eAc_ap, eAs_ap, eTup_ap, eLs_ap, eOfL_ap, eIxO_ap, eP0_ap, ePs_ap, eSl_ap, iW_ap, iR1_ap, iR2_ap, iZp_ap, gN_ap, gNilD_ap, gConsD_ap, gTupD_ap, cYes_ap, sNil_ap, sSeq_ap, sIf_ap, sRet_ap, sRetN_ap, sSet_ap, sSetO_ap, sExp_ap, sBrk_ap, sCont_ap, sApp_ap, ePop_ap, sPut_ap, eCall_ap, eCallO_ap, eLenO_ap, sDk0_ap, sDput_ap, eSrtDk_ap, eDget_ap, eDin_ap, eRevO_ap, eLenS_ap, eIxS_ap, iSq_ap, nSeq_ap, nRet_ap, sDraws_ap, sAug_ap, sPar_ap, unE, reE, keepF, dIs, dNot, dNeg, dIsT, isTy, tyOf, rets, retsO, List.getElem?_cons_zero, List.getElem?_cons_succ, List.set_cons_zero, List.set_cons_succ, List.length_cons, List.length_nil, List.length_map, List.length_set, Nat.reduceAdd, Nat.reduceSub, Nat.reduceLT, Nat.reduceLeDiff, dAdd_i, dAdd_l, dAdd_t, dSub_i, dMul_i, dDiv_i, dModI_i, dLt_i, dLe_i, dGt_i, dGe_i, dEq_i, dNe_i, dEq_b, dNe_b, if_true, if_false, decide_true, decide_false, Bool.false_eq_true, Bool.not_true, Bool.not_false, and_true, true_and, and_self, or_true, true_or, reduceIte, Int.reduceNeg, Int.reducePow, Int.reduceLT, Int.reduceLE, Int.reduceGT, Int.reduceAdd, Int.reduceMul, Int.reduceSub, Int.reduceToNat, Nat.reducePow, Nat.reduceMul, Nat.reduceEqDiff, Int.reduceBEq, or_self, and_false, false_and, false_or, or_false, Bool.and_true, Bool.true_and, Bool.and_false, Bool.false_and, Bool.and_self, List.length_append, dAbs_i, Int.cast_ofNat_Int, beq_self_eq_true, String.reduceBEq, zip_l, zip_t, walk_l, walk_t, items_l, items_t, dLen_l, dLen_t, dTuple_l, dTuple_t, dList_l, dList_t, dInt_i, dSl_l, dSl_t, dIsNot_b, Bool.true_or, Bool.or_true, Bool.or_false, Bool.false_or, hR]
    · simp only [ih, eC_ap, eV_ap, eB_ap, eU_ap, eAnd_ap, eOr_ap, tE_ap, tAnd_ap, tOr_ap, tNot_ap, eIf_ap, eCh_ap, eA0_ap, eAc_ap, eAs_ap, eTup_ap, eLs_ap, eOfL_ap, eIxO_ap, eP0_ap, ePs_ap, eSl_ap, iW_ap, iR1_ap, iR2_ap, iZp_ap, gN_ap, gNilD_ap, gConsD_ap, gTupD_ap, cYes_ap, sNil_ap, sSeq_ap, sIf_ap, sRet_ap, sRetN_ap, sSet_ap, sSetO_ap, sExp_ap, sBrk_ap, sCont_ap, sApp_ap, ePop_ap, sPut_ap, eCall_ap, eCallO_ap, eLenO_ap, sDk0_ap, sDput_ap, eSrtDk_ap, eDget_ap, eDin_ap, eRevO_ap, eLenS_ap, eIxS_ap, iSq_ap, nSeq_ap, nRet_ap, sDraws_ap, sAug_ap, sPar_ap, unE, reE, keepF, dIs, dNot, dNeg, dIsT, isTy, tyOf, rets, retsO, List.getElem?_cons_zero, List.getElem?_cons_succ, List.set_cons_zero, List.set_cons_succ, List.length_cons, List.length_nil, List.length_map, List.length_set, Nat.reduceAdd, Nat.reduceSub, Nat.reduceLT, Nat.reduceLeDiff, dAdd_i, dAdd_l, dAdd_t, dSub_i, dMul_i, dDiv_i, dModI_i, dLt_i, dLe_i, dGt_i, dGe_i, dEq_i, dNe_i, dEq_b, dNe_b, if_true, if_false, decide_true, decide_false, Bool.false_eq_true, Bool.not_true, Bool.not_false, and_true, true_and, and_self, or_true, true_or, reduceIte, Int.reduceNeg, Int.reducePow, Int.reduceLT, Int.reduceLE, Int.reduceGT, Int.reduceAdd, Int.reduceMul, Int.reduceSub, Int.reduceToNat, Nat.reducePow, Nat.reduceMul, Nat.reduceEqDiff, Int.reduceBEq, or_self, and_false, false_and, false_or, or_false, Bool.and_true, Bool.true_and, Bool.and_false, Bool.false_and, Bool.and_self, List.length_append, dAbs_i, Int.cast_ofNat_Int, beq_self_eq_true, String.reduceBEq, zip_l, zip_t, walk_l, walk_t, items_l, items_t, dLen_l, dLen_t, dTuple_l, dTuple_t, dList_l, dList_t, dInt_i, dSl_l, dSl_t, dIsNot_b, Bool.true_or, Bool.or_true, Bool.or_false, Bool.false_or, hR, List.map_cons]
end K92

namespace K92
open PySem PySem.Spec PyProof.Rows L2 GxR DL
def swp (r : List Int) (p : Nat) : List Int := r.take p ++ [at0 r (p + 1), at0 r p] ++ r.drop (p + 2)
theorem swp_len {r : List Int} {p : Nat} (h : p + 1 < r.length) : (swp r p).length = r.length := by
  unfold swp
  rw [List.length_append, List.length_append, List.length_take, List.length_drop]
  simp
  omega
theorem at0_mem {r : List Int} {p : Nat} (h : p < r.length) : at0 r p ∈ r := by
  unfold at0
  rw [List.getElem?_eq_getElem h]
  exact List.getElem_mem h
theorem swp_dig {r : List Int} {p : Nat} (h : p + 1 < r.length) (hd : dig r = true) : dig (swp r p) = true := dig_iff.mpr fun x hx => by
  unfold swp at hx
  rcases List.mem_append.mp hx with hx | hx
  · rcases List.mem_append.mp hx with hx | hx
    · exact dig_iff.mp hd x (List.mem_of_mem_take hx)
    · rcases List.mem_cons.mp hx with rfl | hx
      · exact dig_iff.mp hd _ (at0_mem h)
      · rw [List.mem_singleton.mp hx]
        exact dig_iff.mp hd _ (at0_mem (by omega))
  · exact dig_iff.mp hd x (List.mem_of_mem_drop hx)
def swapB (ws : List Int) (b : Int) (p : Nat) (r : List Int) : Bool := !(at0 r p == at0 r (p + 1)) && R ws b (swp r p)
theorem seg_bad2 (ws : List Int) (b : Int) (hb : 0 < b) (h10 : ws.length ≤ 10) (p : Nat) (hp : p + 1 < ws.length)
    (n0 n1 n2 n3 n4 n6 n7 n8 n9 n11 n12 n13 n14 n15 n16 n17 n18 n19 n21 : SV) : ∀ rs : List (List Int), (∀ r ∈ rs, r.length = ws.length ∧ dig r = true) →
    cLoop [20] (gN 20) (DL.tAnd (tE (eB dNe (eB dIx (eV 20) (eV 10)) (eB dIx (eV 20) (eB dAdd (eV 10) (eC (.int 1)))))) (tE (eCall mf__law_right (eAc (eV 5) (eAc (eB dAdd (eB dAdd (eSl (eV 20) eP0 (ePs (eV 10))) (eTup (eAc (eB dIx (eV 20) (eB dAdd (eV 10) (eC (.int 1)))) (eAc (eB dIx (eV 20) (eV 10)) eA0)))) (eSl (eV 20) (ePs (eB dAdd (eV 10) (eC (.int 2)))) eP0)) eA0))))) (eV 20) (rs.map tupI)
      [n0, n1, n2, n3, n4, .fz (sch ws b), n6, n7, n8, n9, .fz (.int (p : Int)), n11, n12, n13, n14, n15, n16, n17, n18, n19, .un, n21] =
      some ((rs.filter (swapB ws b p)).map tupI, [n0, n1, n2, n3, n4, .fz (sch ws b), n6, n7, n8, n9, .fz (.int (p : Int)), n11, n12, n13, n14, n15, n16, n17, n18, n19, .un, n21])
  | [], _ => rfl
  | r :: rs, h => by
    have ih := seg_bad2 ws b hb h10 p hp n0 n1 n2 n3 n4 n6 n7 n8 n9 n11 n12 n13 n14 n15 n16 n17 n18 n19 n21 rs fun j hj => h j (List.mem_cons_of_mem _ hj)
    obtain ⟨hl, hd⟩ := h r List.mem_cons_self
    have hp1 : p + 1 < r.length := by omega
    have x1 := ix_at (r := r) (p := p) (by omega)
    have x2 := ix_at1 hp1
    have z2 : 2 ≤ sizeLine := line_small (by decide)
    have ti : (PyData.tuple [.int (at0 r (p + 1)), .int (at0 r p)] : D) = tupI [at0 r (p + 1), at0 r p] := rfl
    have a1 := tup_add (r.take p) [at0 r (p + 1), at0 r p] (by rw [List.length_take]; simp; omega)
    have a2 := tup_add (r.take p ++ [at0 r (p + 1), at0 r p]) (r.drop (p + 2)) (by rw [List.length_append, List.length_take, List.length_drop]; simp; omega)
    have hr : mf__law_right [sch ws b, tupI (r.take p ++ [at0 r (p + 1), at0 r p] ++ r.drop (p + 2))] = some (.bool (R ws b (swp r p))) := right_eq hb (by rw [← hl]; exact swp_len hp1) h10 (swp_dig hp1 hd)
    rw [List.map_cons, cLoop]
    simp only [eC_ap, eV_ap, eB_ap, eU_ap, eAnd_ap, eOr_ap, tE_ap, tAnd_ap, tOr_ap, tNot_ap, eIf_ap, eCh_ap, eA0_ap, eAc_ap, eAs_ap, eTup_ap, eLs_ap, eOfL_ap, eIxO_ap, eP0_ap, ePs_ap, eSl_ap, iW_ap, iR1_ap, iR2_ap, iZp_ap, gN_ap, gNilD_ap, gConsD_ap, gTupD_ap, cYes_ap, sNil_ap, sSeq_ap, sIf_ap, sRet_ap, sRetN_ap, sSet_ap, sSetO_ap, sExp_ap, sBrk_ap, sCont_ap, sApp_ap, ePop_ap, sPut_ap, eCall_ap, eCallO_ap, eLenO_ap, sDk0_ap, sDput_ap, eSrtDk_ap, eDget_ap, eDin_ap, eRevO_ap, eLenS_ap, eIxS_ap, iSq_ap, nSeq_ap, nRet_ap, sDraws_ap, sAug_ap, sPar_ap, unE, reE, keepF, dIs, dNot, dNeg, dIsT, isTy, tyOf, rets, retsO, List.getElem?_cons_zero, List.getElem?_cons_succ, List.set_cons_zero, List.set_cons_succ, List.length_cons, List.length_nil, List.length_map, List.length_set, Nat.reduceAdd, Nat.reduceSub, Nat.reduceLT, Nat.reduceLeDiff, dAdd_i, dAdd_l, dAdd_t, dSub_i, dMul_i, dDiv_i, dModI_i, dLt_i, dLe_i, dGt_i, dGe_i, dEq_i, dNe_i, dEq_b, dNe_b, if_true, if_false, decide_true, decide_false, Bool.false_eq_true, Bool.not_true, Bool.not_false, and_true, true_and, and_self, or_true, true_or, reduceIte, Int.reduceNeg, Int.reducePow, Int.reduceLT, Int.reduceLE, Int.reduceGT, Int.reduceAdd, Int.reduceMul, Int.reduceSub, Int.reduceToNat, Nat.reducePow, Nat.reduceMul, Nat.reduceEqDiff, Int.reduceBEq, or_self, and_false, false_and, false_or, or_false, Bool.and_true, Bool.true_and, Bool.and_false, Bool.false_and, Bool.and_self, List.length_append, dAbs_i, Int.cast_ofNat_Int, beq_self_eq_true, String.reduceBEq, zip_l, zip_t, walk_l, walk_t, items_l, items_t, dLen_l, dLen_t, dTuple_l, dTuple_t, dList_l, dList_t, dInt_i, dSl_l, dSl_t, dIsNot_b, Bool.true_or, Bool.or_true, Bool.or_false, Bool.false_or, x1, x2]
    rw [List.filter_cons]
    have ex : swapB ws b p r = (!(at0 r p == at0 r (p + 1)) && R ws b (swp r p)) := rfl
    rw [ex]
    cases e1 : (at0 r p == at0 r (p + 1))
    · cases hR : R ws b (swp r p)
      · simp only [e1, x1, x2, tup_take, tup_drop2, z2, ti, a1, a2, hr, hR, ih, eC_ap, eV_ap, eB_ap, eU_ap, eAnd_ap, eOr_ap, tE_ap, tAnd_ap, tOr_ap, tNot_ap, eIf_ap, eCh_ap, eA0_ap, eAc_ap, eAs_ap, eTup_ap, eLs_ap, eOfL_ap, eIxO_ap, eP0_ap, ePs_ap, eSl_ap, iW_ap, iR1_ap, iR2_ap, iZp_ap, gN_ap, gNilD_ap, gConsD_ap, gTupD_ap, cYes_ap, sNil_ap, sSeq_ap, sIf_ap, sRet_ap, sRetN_ap, sSet_ap, sSetO_ap, sExp_ap, sBrk_ap, sCont_ap, sApp_ap, ePop_ap, sPut_ap, eCall_ap, eCallO_ap, eLenO_ap, sDk0_ap, sDput_ap, eSrtDk_ap, eDget_ap, eDin_ap, eRevO_ap, eLenS_ap, eIxS_ap, iSq_ap, nSeq_ap, nRet_ap, sDraws_ap, sAug_ap, sPar_ap, unE, reE, keepF, dIs, dNot, dNeg, dIsT, isTy, tyOf, rets, retsO, List.getElem?_cons_zero, List.getElem?_cons_succ, List.set_cons_zero, List.set_cons_succ, List.length_cons, List.length_nil, List.length_map, List.length_set, Nat.reduceAdd, Nat.reduceSub, Nat.reduceLT, Nat.reduceLeDiff, dAdd_i, dAdd_l, dAdd_t, dSub_i, dMul_i, dDiv_i, dModI_i, dLt_i, dLe_i, dGt_i, dGe_i, dEq_i, dNe_i, dEq_b, dNe_b, if_true, if_false, decide_true, decide_false, Bool.false_eq_true, Bool.not_true, Bool.not_false, and_true, true_and, and_self, or_true, true_or, reduceIte, Int.reduceNeg, Int.reducePow, Int.reduceLT, Int.reduceLE, Int.reduceGT, Int.reduceAdd, Int.reduceMul, Int.reduceSub, Int.reduceToNat, Nat.reducePow, Nat.reduceMul, Nat.reduceEqDiff, Int.reduceBEq, or_self, and_false, false_and, false_or, or_false, Bool.and_true, Bool.true_and, Bool.and_false, Bool.false_and, Bool.and_self, List.length_append, dAbs_i, Int.cast_ofNat_Int, beq_self_eq_true, String.reduceBEq, zip_l, zip_t, walk_l, walk_t, items_l, items_t, dLen_l, dLen_t, dTuple_l, dTuple_t, dList_l, dList_t, dInt_i, dSl_l, dSl_t, dIsNot_b, Bool.true_or, Bool.or_true, Bool.or_false, Bool.false_or]
      · simp only [e1, x1, x2, tup_take, tup_drop2, z2, ti, a1, a2, hr, hR, ih, eC_ap, eV_ap, eB_ap, eU_ap, eAnd_ap, eOr_ap, tE_ap, tAnd_ap, tOr_ap, tNot_ap, eIf_ap, eCh_ap, eA0_ap, eAc_ap, eAs_ap, eTup_ap, eLs_ap, eOfL_ap, eIxO_ap, eP0_ap, ePs_ap, eSl_ap, iW_ap, iR1_ap, iR2_ap, iZp_ap, gN_ap, gNilD_ap, gConsD_ap, gTupD_ap, cYes_ap, sNil_ap, sSeq_ap, sIf_ap, sRet_ap, sRetN_ap, sSet_ap, sSetO_ap, sExp_ap, sBrk_ap, sCont_ap, sApp_ap, ePop_ap, sPut_ap, eCall_ap, eCallO_ap, eLenO_ap, sDk0_ap, sDput_ap, eSrtDk_ap, eDget_ap, eDin_ap, eRevO_ap, eLenS_ap, eIxS_ap, iSq_ap, nSeq_ap, nRet_ap, sDraws_ap, sAug_ap, sPar_ap, unE, reE, keepF, dIs, dNot, dNeg, dIsT, isTy, tyOf, rets, retsO, List.getElem?_cons_zero, List.getElem?_cons_succ, List.set_cons_zero, List.set_cons_succ, List.length_cons, List.length_nil, List.length_map, List.length_set, Nat.reduceAdd, Nat.reduceSub, Nat.reduceLT, Nat.reduceLeDiff, dAdd_i, dAdd_l, dAdd_t, dSub_i, dMul_i, dDiv_i, dModI_i, dLt_i, dLe_i, dGt_i, dGe_i, dEq_i, dNe_i, dEq_b, dNe_b, if_true, if_false, decide_true, decide_false, Bool.false_eq_true, Bool.not_true, Bool.not_false, and_true, true_and, and_self, or_true, true_or, reduceIte, Int.reduceNeg, Int.reducePow, Int.reduceLT, Int.reduceLE, Int.reduceGT, Int.reduceAdd, Int.reduceMul, Int.reduceSub, Int.reduceToNat, Nat.reducePow, Nat.reduceMul, Nat.reduceEqDiff, Int.reduceBEq, or_self, and_false, false_and, false_or, or_false, Bool.and_true, Bool.true_and, Bool.and_false, Bool.false_and, Bool.and_self, List.length_append, dAbs_i, Int.cast_ofNat_Int, beq_self_eq_true, String.reduceBEq, zip_l, zip_t, walk_l, walk_t, items_l, items_t, dLen_l, dLen_t, dTuple_l, dTuple_t, dList_l, dList_t, dInt_i, dSl_l, dSl_t, dIsNot_b, Bool.true_or, Bool.or_true, Bool.or_false, Bool.false_or, List.map_cons]
    · simp only [e1, ih, eC_ap, eV_ap, eB_ap, eU_ap, eAnd_ap, eOr_ap, tE_ap, tAnd_ap, tOr_ap, tNot_ap, eIf_ap, eCh_ap, eA0_ap, eAc_ap, eAs_ap, eTup_ap, eLs_ap, eOfL_ap, eIxO_ap, eP0_ap, ePs_ap, eSl_ap, iW_ap, iR1_ap, iR2_ap, iZp_ap, gN_ap, gNilD_ap, gConsD_ap, gTupD_ap, cYes_ap, sNil_ap, sSeq_ap, sIf_ap, sRet_ap, sRetN_ap, sSet_ap, sSetO_ap, sExp_ap, sBrk_ap, sCont_ap, sApp_ap, ePop_ap, sPut_ap, eCall_ap, eCallO_ap, eLenO_ap, sDk0_ap, sDput_ap, eSrtDk_ap, eDget_ap, eDin_ap, eRevO_ap, eLenS_ap, eIxS_ap, iSq_ap, nSeq_ap, nRet_ap, sDraws_ap, sAug_ap, sPar_ap, unE, reE, keepF, dIs, dNot, dNeg, dIsT, isTy, tyOf, rets, retsO, List.getElem?_cons_zero, List.getElem?_cons_succ, List.set_cons_zero, List.set_cons_succ, List.length_cons, List.length_nil, List.length_map, List.length_set, Nat.reduceAdd, Nat.reduceSub, Nat.reduceLT, Nat.reduceLeDiff, dAdd_i, dAdd_l, dAdd_t, dSub_i, dMul_i, dDiv_i, dModI_i, dLt_i, dLe_i, dGt_i, dGe_i, dEq_i, dNe_i, dEq_b, dNe_b, if_true, if_false, decide_true, decide_false, Bool.false_eq_true, Bool.not_true, Bool.not_false, and_true, true_and, and_self, or_true, true_or, reduceIte, Int.reduceNeg, Int.reducePow, Int.reduceLT, Int.reduceLE, Int.reduceGT, Int.reduceAdd, Int.reduceMul, Int.reduceSub, Int.reduceToNat, Nat.reducePow, Nat.reduceMul, Nat.reduceEqDiff, Int.reduceBEq, or_self, and_false, false_and, false_or, or_false, Bool.and_true, Bool.true_and, Bool.and_false, Bool.false_and, Bool.and_self, List.length_append, dAbs_i, Int.cast_ofNat_Int, beq_self_eq_true, String.reduceBEq, zip_l, zip_t, walk_l, walk_t, items_l, items_t, dLen_l, dLen_t, dTuple_l, dTuple_t, dList_l, dList_t, dInt_i, dSl_l, dSl_t, dIsNot_b, Bool.true_or, Bool.or_true, Bool.or_false, Bool.false_or]
theorem can_rows : ∀ rs : List (List Int), PyData.canLayAll0 (rs.map tupI) = true
  | [] => rfl
  | r :: rs => by
    rw [List.map_cons, PyData.canLayAll0, can_rows rs]
    unfold tupI
    rw [PyData.canLay0, can_ints]
    rfl
theorem dep_rows : ∀ rs : List (List Int), PyData.depthAll (rs.map tupI) ≤ 1
  | [] => by decide
  | r :: rs => by
    have ih := dep_rows rs
    rw [List.map_cons, PyData.depthAll]
    unfold tupI
    rw [PyData.depth, dep_ints]
    exact Nat.max_le.mpr ⟨by decide, ih⟩
theorem shaped_rows (rs : List (List Int)) : SeqAt.shaped (.list (rs.map tupI)) = true := by
  unfold SeqAt.shaped
  rw [PyData.canLay0, can_rows, PyData.depth]
  have := dep_rows rs
  simp
  omega
theorem eq_nilT (rs : List (List Int)) : dEq (.list (rs.map tupI)) (.list []) = some (.bool (decide (rs = []))) := by
  have h : SeqAt.shaped (.list ([] : List D)) = true := rfl
  unfold dEq
  rw [shaped_rows, h]
  cases rs <;> rfl
def sm1B : SM :=
    (sSeq (sSet (gN 15) (eOfL (cC [20] (iW (eV 14)) (gN 20) (tE (eB dNe (eOfL (cC [18] (iR1 (eAc (eC (.int 10)) eA0)) (gN 18) (DL.tAnd (tE (eB dNe (eV 18) (eB dIx (eV 20) (eV 10)))) (tE (eCall mf__law_right (eAc (eV 5) (eAc (eCall mf__law_changed (eAc (eV 20) (eAc (eV 10) (eAc (eV 18) eA0)))) eA0))))) (eV 18))) (eOfL (eLs eA0)))) (eV 20))))
    (sIf (tE (eB dNe (eB dEq (eV 15) (eOfL (eLs eA0))) (eCall mf_shows_wrong (eAc (eV 5) (eAc (eV 10) eA0))))) (sRet (eC (.bool false))) sNil))
theorem sm1_step (s0 x2 : SV) (ws : List Int) (b : Int) (hb : 0 < b) (h10 : ws.length ≤ 10) (p : Nat) (hp : p < ws.length) (rs : List (List Int)) (hrs : ∀ r ∈ rs, r.length = ws.length ∧ dig r = true) (hlen : rs.length ≤ 1000)
    (m3 : decide ((rs.filter fun r => !decide (itemsB ws b p r = [])) = []) = wrongB b ws[p])
    (Φ : Fl → Prop) (l : List Int) (x7 x8 x9 x11 x12 x13 x15 : SV)
    (h : ∀ x15, Φ (.nx (EV s0 x2 ws b l x7 x8 x9 (.fz (.int (p : Int))) x11 x12 x13 (.fz (.list (rs.map tupI))) x15))) : sm1B (EV s0 x2 ws b l x7 x8 x9 (.fz (.int (p : Int))) x11 x12 x13 (.fz (.list (rs.map tupI))) x15) Φ := by
  unfold sm1B
  have z0 : 0 ≤ sizeLine := Nat.zero_le _
  have hw := wrong_eq hb hp
  have hfl : (rs.filter fun r => !decide (itemsB ws b p r = [])).length ≤ sizeLine := line_small (Nat.le_trans (List.length_filter_le _ rs) (Nat.le_trans hlen (by decide)))
  have hbd := seg_bad1 ws b hb h10 p hp s0 (.ow none (l.map .int)) x2 (.fz (.int b)) (.fz (.int (ws.length : Int))) (.fz (tupI ws)) x7 x8 x9 x11 x12 x13 (.fz (.list (rs.map tupI))) x15 .un .un .un .un rs hrs
  have he := eq_nilT (rs.filter fun r => !decide (itemsB ws b p r = []))
  rw [m3] at he
  simp only [EV, sSeq_ap, sSet_ap, eOfL_ap, cC_ap, iW_ap, eV_ap, List.getElem?_cons_succ, List.getElem?_cons_zero, walk_l, unE, List.set_cons_succ, List.set_cons_zero]
  simp only [hbd, hfl, he, z0, eC_ap, eV_ap, eB_ap, eU_ap, eAnd_ap, eOr_ap, tE_ap, tAnd_ap, tOr_ap, tNot_ap, eIf_ap, eCh_ap, eA0_ap, eAc_ap, eAs_ap, eTup_ap, eLs_ap, eOfL_ap, eIxO_ap, eP0_ap, ePs_ap, eSl_ap, iW_ap, iR1_ap, iR2_ap, iZp_ap, gN_ap, gNilD_ap, gConsD_ap, gTupD_ap, cYes_ap, sNil_ap, sSeq_ap, sIf_ap, sRet_ap, sRetN_ap, sSet_ap, sSetO_ap, sExp_ap, sBrk_ap, sCont_ap, sApp_ap, ePop_ap, sPut_ap, eCall_ap, eCallO_ap, eLenO_ap, sDk0_ap, sDput_ap, eSrtDk_ap, eDget_ap, eDin_ap, eRevO_ap, eLenS_ap, eIxS_ap, iSq_ap, nSeq_ap, nRet_ap, sDraws_ap, sAug_ap, sPar_ap, unE, reE, keepF, dIs, dNot, dNeg, dIsT, isTy, tyOf, rets, retsO, List.getElem?_cons_zero, List.getElem?_cons_succ, List.set_cons_zero, List.set_cons_succ, List.length_cons, List.length_nil, List.length_map, List.length_set, Nat.reduceAdd, Nat.reduceSub, Nat.reduceLT, Nat.reduceLeDiff, dAdd_i, dAdd_l, dAdd_t, dSub_i, dMul_i, dDiv_i, dModI_i, dLt_i, dLe_i, dGt_i, dGe_i, dEq_i, dNe_i, dEq_b, dNe_b, if_true, if_false, decide_true, decide_false, Bool.false_eq_true, Bool.not_true, Bool.not_false, and_true, true_and, and_self, or_true, true_or, reduceIte, Int.reduceNeg, Int.reducePow, Int.reduceLT, Int.reduceLE, Int.reduceGT, Int.reduceAdd, Int.reduceMul, Int.reduceSub, Int.reduceToNat, Nat.reducePow, Nat.reduceMul, Nat.reduceEqDiff, Int.reduceBEq, or_self, and_false, false_and, false_or, or_false, Bool.and_true, Bool.true_and, Bool.and_false, Bool.false_and, Bool.and_self, List.length_append, dAbs_i, Int.cast_ofNat_Int, beq_self_eq_true, String.reduceBEq, zip_l, zip_t, walk_l, walk_t, items_l, items_t, dLen_l, dLen_t, dTuple_l, dTuple_t, dList_l, dList_t, dInt_i, dSl_l, dSl_t, dIsNot_b, Bool.true_or, Bool.or_true, Bool.or_false, Bool.false_or, hw]
  exact h _
def sm2B : SM :=
    (sSeq (sSet (gN 15) (eOfL (cC [20] (iW (eV 14)) (gN 20) (DL.tAnd (tE (eB dNe (eB dIx (eV 20) (eV 10)) (eB dIx (eV 20) (eB dAdd (eV 10) (eC (.int 1)))))) (tE (eCall mf__law_right (eAc (eV 5) (eAc (eB dAdd (eB dAdd (eSl (eV 20) eP0 (ePs (eV 10))) (eTup (eAc (eB dIx (eV 20) (eB dAdd (eV 10) (eC (.int 1)))) (eAc (eB dIx (eV 20) (eV 10)) eA0)))) (eSl (eV 20) (ePs (eB dAdd (eV 10) (eC (.int 2)))) eP0)) eA0))))) (eV 20))))
    (sIf (tE (eB dNe (eB dEq (eV 15) (eOfL (eLs eA0))) (eCall mf_shows_exchange (eAc (eV 5) (eAc (eV 10) eA0))))) (sRet (eC (.bool false))) sNil))
theorem sm2_step (s0 x2 : SV) (ws : List Int) (b : Int) (hb : 0 < b) (hb2 : b ≤ 100) (h10 : ws.length ≤ 10) (p : Nat) (hp : p < ws.length) (hq : p + 1 < ws.length) (rs : List (List Int)) (hrs : ∀ r ∈ rs, r.length = ws.length ∧ dig r = true) (hlen : rs.length ≤ 1000)
    (m4 : decide ((rs.filter (swapB ws b p)) = []) = exchB ws b p ws[p] ws[p + 1])
    (Φ : Fl → Prop) (l : List Int) (x7 x8 x9 x11 x12 x13 x15 : SV)
    (h : ∀ x15, Φ (.nx (EV s0 x2 ws b l x7 x8 x9 (.fz (.int (p : Int))) x11 x12 x13 (.fz (.list (rs.map tupI))) x15))) : sm2B (EV s0 x2 ws b l x7 x8 x9 (.fz (.int (p : Int))) x11 x12 x13 (.fz (.list (rs.map tupI))) x15) Φ := by
  unfold sm2B
  have z0 : 0 ≤ sizeLine := Nat.zero_le _
  have hw := exch_eq hb hb2 h10 hp hq
  have hfl : (rs.filter (swapB ws b p)).length ≤ sizeLine := line_small (Nat.le_trans (List.length_filter_le _ rs) (Nat.le_trans hlen (by decide)))
  have hbd := seg_bad2 ws b hb h10 p hq s0 (.ow none (l.map .int)) x2 (.fz (.int b)) (.fz (.int (ws.length : Int))) (.fz (tupI ws)) x7 x8 x9 x11 x12 x13 (.fz (.list (rs.map tupI))) x15 .un .un .un .un .un rs hrs
  have he := eq_nilT (rs.filter (swapB ws b p))
  rw [m4] at he
  simp only [EV, sSeq_ap, sSet_ap, eOfL_ap, cC_ap, iW_ap, eV_ap, List.getElem?_cons_succ, List.getElem?_cons_zero, walk_l, unE, List.set_cons_succ, List.set_cons_zero]
  simp only [hbd, hfl, he, z0, eC_ap, eV_ap, eB_ap, eU_ap, eAnd_ap, eOr_ap, tE_ap, tAnd_ap, tOr_ap, tNot_ap, eIf_ap, eCh_ap, eA0_ap, eAc_ap, eAs_ap, eTup_ap, eLs_ap, eOfL_ap, eIxO_ap, eP0_ap, ePs_ap, eSl_ap, iW_ap, iR1_ap, iR2_ap, iZp_ap, gN_ap, gNilD_ap, gConsD_ap, gTupD_ap, cYes_ap, sNil_ap, sSeq_ap, sIf_ap, sRet_ap, sRetN_ap, sSet_ap, sSetO_ap, sExp_ap, sBrk_ap, sCont_ap, sApp_ap, ePop_ap, sPut_ap, eCall_ap, eCallO_ap, eLenO_ap, sDk0_ap, sDput_ap, eSrtDk_ap, eDget_ap, eDin_ap, eRevO_ap, eLenS_ap, eIxS_ap, iSq_ap, nSeq_ap, nRet_ap, sDraws_ap, sAug_ap, sPar_ap, unE, reE, keepF, dIs, dNot, dNeg, dIsT, isTy, tyOf, rets, retsO, List.getElem?_cons_zero, List.getElem?_cons_succ, List.set_cons_zero, List.set_cons_succ, List.length_cons, List.length_nil, List.length_map, List.length_set, Nat.reduceAdd, Nat.reduceSub, Nat.reduceLT, Nat.reduceLeDiff, dAdd_i, dAdd_l, dAdd_t, dSub_i, dMul_i, dDiv_i, dModI_i, dLt_i, dLe_i, dGt_i, dGe_i, dEq_i, dNe_i, dEq_b, dNe_b, if_true, if_false, decide_true, decide_false, Bool.false_eq_true, Bool.not_true, Bool.not_false, and_true, true_and, and_self, or_true, true_or, reduceIte, Int.reduceNeg, Int.reducePow, Int.reduceLT, Int.reduceLE, Int.reduceGT, Int.reduceAdd, Int.reduceMul, Int.reduceSub, Int.reduceToNat, Nat.reducePow, Nat.reduceMul, Nat.reduceEqDiff, Int.reduceBEq, or_self, and_false, false_and, false_or, or_false, Bool.and_true, Bool.true_and, Bool.and_false, Bool.false_and, Bool.and_self, List.length_append, dAbs_i, Int.cast_ofNat_Int, beq_self_eq_true, String.reduceBEq, zip_l, zip_t, walk_l, walk_t, items_l, items_t, dLen_l, dLen_t, dTuple_l, dTuple_t, dList_l, dList_t, dInt_i, dSl_l, dSl_t, dIsNot_b, Bool.true_or, Bool.or_true, Bool.or_false, Bool.false_or, hw]
  exact h _
end K92

namespace K92
open PySem PySem.Spec PyProof.Rows L2 GxR DL
/-! ### the maths of the rows -/
theorem at0_get {r : List Int} {p : Nat} (h : p < r.length) : at0 r p = r[p] := by
  unfold at0
  rw [List.getElem?_eq_getElem h]
  rfl
theorem at0_cons (x : Int) (r : List Int) (p : Nat) : at0 (x :: r) (p + 1) = at0 r p := rfl
theorem dot_chg : ∀ (p : Nat) (r ws : List Int) (i : Int), r.length = ws.length → p < r.length → dot (chg r p i) ws = dot r ws + (i - at0 r p) * at0 ws p
  | _, [], _, _, _, h => by cases h
  | _, _ :: _, [], _, h, _ => by cases h
  | 0, x :: r, w :: ws, i, _, _ => by
    show dot (i :: r) (w :: ws) = dot (x :: r) (w :: ws) + (i - x) * w
    rw [dot_cons, dot_cons, Int.sub_mul]
    omega
  | p + 1, x :: r, w :: ws, i, hl, hp => by
    have ih := dot_chg p r ws i (by simpa using hl) (by simpa using hp)
    show dot (x :: chg r p i) (w :: ws) = dot (x :: r) (w :: ws) + (i - at0 r p) * at0 ws p
    rw [dot_cons, dot_cons, ih]
    omega
theorem dot_mid : ∀ (t d ws : List Int) (i j : Int), t.length + 2 + d.length = ws.length → dot (t ++ [i, j] ++ d) ws = i * at0 ws t.length + j * at0 ws (t.length + 1) + dot (t ++ d) (ws.take t.length ++ ws.drop (t.length + 2))
  | [], d, w :: v :: ws, i, j, _ => by
    show dot (i :: j :: d) (w :: v :: ws) = i * w + j * v + dot d ws
    rw [dot_cons, dot_cons]
    omega
  | x :: t, d, w :: ws, i, j, h => by
    have ih := dot_mid t d ws i j (by simp at h; omega)
    show dot (x :: (t ++ [i, j] ++ d)) (w :: ws) = i * at0 ws t.length + j * at0 ws (t.length + 1) + dot (x :: (t ++ d)) (w :: (ws.take t.length ++ ws.drop (t.length + 2)))
    rw [dot_cons, dot_cons, ih]
    omega
  | [], d, [], i, j, h => by simp at h <;> omega
  | [], d, [_], i, j, h => by simp at h <;> omega
  | _ :: _, d, [], i, j, h => by simp at h <;> omega
theorem split2 : ∀ (p : Nat) (r : List Int), p + 1 < r.length → r = r.take p ++ [at0 r p, at0 r (p + 1)] ++ r.drop (p + 2)
  | _, [], h => by cases h
  | 0, [_], h => by simp at h
  | 0, x :: y :: r, _ => rfl
  | p + 1, x :: r, h => congrArg (x :: ·) (split2 p r (by simpa using h))
theorem R_dvd {ws ns : List Int} {b : Int} : R ws b ns = true ↔ b ∣ dot ns ws := by
  unfold R
  rw [beq_iff_eq]
  exact ⟨Int.dvd_of_emod_eq_zero, Int.emod_eq_zero_of_dvd⟩
theorem res_dvd {b x O : Int} : (b - x % b) % b = O % b ↔ b ∣ x + O := by
  rw [Int.emod_eq_emod_iff_emod_sub_eq_zero]
  have e : b - x % b - O = b * (1 + x / b) - (x + O) := by
    have := Int.emod_add_mul_ediv x b
    rw [Int.mul_add]
    omega
  rw [e]
  constructor
  · intro h
    have h1 := Int.dvd_of_emod_eq_zero h
    have h2 := Int.dvd_sub (Int.dvd_mul_right b (1 + x / b)) h1
    have e2 : b * (1 + x / b) - (b * (1 + x / b) - (x + O)) = x + O := by omega
    rw [e2] at h2
    exact h2
  · intro h
    exact Int.emod_eq_zero_of_dvd (Int.dvd_sub (Int.dvd_mul_right b _) h)
abbrev rightRows (ws : List Int) (b : Int) : List (List Int) := (rowsOf ws.length).filter (R ws b)
theorem mem_right {ws r : List Int} {b : Int} : r ∈ rightRows ws b ↔ r.length = ws.length ∧ (∀ x ∈ r, x ∈ digits) ∧ b ∣ dot r ws := by
  rw [List.mem_filter, rows_mem, R_dvd]
  exact ⟨fun ⟨⟨a, c⟩, d⟩ => ⟨a, c, d⟩, fun ⟨a, c, d⟩ => ⟨⟨a, c⟩, d⟩⟩
theorem bool_by {P : Prop} [Decidable P] {c : Bool} (h : ¬ P ↔ c = false) : decide P = c := by
  cases c with
  | true => exact decide_eq_true (Classical.byContradiction fun z => by cases h.mp z)
  | false => exact decide_eq_false (h.mpr rfl)
theorem filter_ne {α : Type} {q : α → Bool} {l : List α} : ¬ (l.filter q = []) ↔ ∃ x ∈ l, q x = true := by
  rw [List.filter_eq_nil_iff]
  constructor
  · intro h
    exact Classical.byContradiction fun z => h fun a ha hq => z ⟨a, ha, hq⟩
  · rintro ⟨x, hx, hq⟩ h
    exact h x hx hq
theorem maths3 {ws : List Int} {b : Int} {p : Nat} (hp : p < ws.length) : decide (((rightRows ws b).filter fun r => !decide (itemsB ws b p r = [])) = []) = wrongB b ws[p] := by
  refine bool_by ?_
  rw [filter_ne, wrong_iff]
  constructor
  · rintro ⟨r, hr, hq⟩
    obtain ⟨h1, h2, h3⟩ := mem_right.mp hr
    have hne : ¬ itemsB ws b p r = [] := by simpa using hq
    unfold itemsB at hne
    obtain ⟨i, hi, hb⟩ := filter_ne.mp hne
    rw [Bool.and_eq_true, R_dvd, dot_chg p r ws i h1 (by omega)] at hb
    obtain ⟨g1, g2⟩ := hb
    have g1' : i ≠ at0 r p := by simpa using g1
    have g3 : b ∣ (i - at0 r p) * at0 ws p := (Int.dvd_add_right h3).mp g2
    have hi2 := dig_digits.mp hi
    have hr2 := dig_digits.mp (h2 _ (at0_mem (show p < r.length by omega)))
    rw [at0_get hp] at g3
    rcases Int.lt_or_gt_of_ne g1' with hlt | hgt
    · refine ⟨at0 r p - i, by omega, by omega, ?_⟩
      have e : ws[p] * (at0 r p - i) = -((i - at0 r p) * ws[p]) := by rw [← Int.neg_mul, Int.mul_comm]; congr 1; omega
      rw [e]
      exact Int.dvd_neg.mpr g3
    · refine ⟨i - at0 r p, by omega, by omega, ?_⟩
      rw [Int.mul_comm]
      exact g3
  · rintro ⟨k, k1, k2, hd⟩
    have hz : ∀ x ∈ (ws.map fun _ => (0 : Int)), x ∈ digits := fun x hx => by
      obtain ⟨_, _, rfl⟩ := List.mem_map.mp hx
      decide
    refine ⟨ws.map fun _ => 0, mem_right.mpr ⟨by simp, hz, by rw [dot_zero]; exact Int.dvd_zero b⟩, ?_⟩
    have hne : ¬ itemsB ws b p (ws.map fun _ => 0) = [] := by
      unfold itemsB
      refine filter_ne.mpr ⟨k, dig_digits.mpr ⟨by omega, by omega⟩, ?_⟩
      have ha : at0 (ws.map fun _ => (0 : Int)) p = 0 := by rw [at0_get (by simpa using hp)]; simp
      rw [Bool.and_eq_true, R_dvd, dot_chg p _ ws k (by simp) (by simpa using hp), dot_zero, ha, at0_get hp]
      refine ⟨by simp; omega, ?_⟩
      rw [Int.zero_add, Int.sub_zero, Int.mul_comm]
      exact hd
    simpa using hne
theorem maths4 {ws : List Int} {b : Int} {p : Nat} (hp : p < ws.length) (hq : p + 1 < ws.length) : decide (((rightRows ws b).filter (swapB ws b p)) = []) = exchB ws b p ws[p] ws[p + 1] := by
  refine bool_by ?_
  rw [filter_ne, exch_iff]
  constructor
  · rintro ⟨r, hr, hs⟩
    obtain ⟨h1, h2, h3⟩ := mem_right.mp hr
    have hpr : p + 1 < r.length := by omega
    have htl : (r.take p).length = p := by rw [List.length_take]; omega
    have hsum : (r.take p).length + 2 + (r.drop (p + 2)).length = ws.length := by rw [htl, List.length_drop]; omega
    unfold swapB at hs
    rw [Bool.and_eq_true, R_dvd] at hs
    obtain ⟨g1, g2⟩ := hs
    unfold swp at g2
    rw [dot_mid _ _ _ _ _ hsum, htl, at0_get hp, at0_get hq] at g2
    rw [split2 p r hpr, dot_mid _ _ _ _ _ hsum, htl, at0_get hp, at0_get hq] at h3
    have g1' : at0 r p ≠ at0 r (p + 1) := by simpa using g1
    refine ⟨at0 r p, at0 r (p + 1), h2 _ (at0_mem (by omega)), h2 _ (at0_mem hpr), g1', ?_, ?_⟩
    · rw [← swap_dvd, Int.emod_eq_emod_iff_emod_sub_eq_zero]
      have := Int.dvd_sub h3 g2
      refine Int.emod_eq_zero_of_dvd ?_
      have e : at0 r p * ws[p] + at0 r (p + 1) * ws[p + 1] - (at0 r (p + 1) * ws[p] + at0 r p * ws[p + 1]) = at0 r p * ws[p] + at0 r (p + 1) * ws[p + 1] + dot (r.take p ++ r.drop (p + 2)) (ws.take p ++ ws.drop (p + 2)) - (at0 r (p + 1) * ws[p] + at0 r p * ws[p + 1] + dot (r.take p ++ r.drop (p + 2)) (ws.take p ++ ws.drop (p + 2))) := by omega
      rw [e]
      exact this
    · refine mem_rests.mpr ⟨r.take p ++ r.drop (p + 2), ?_, fun x hx => ?_, res_dvd.mpr h3⟩
      · rw [List.length_append, List.length_append, List.length_take, List.length_take, List.length_drop, List.length_drop]
        omega
      · rcases List.mem_append.mp hx with hx | hx
        · exact h2 x (List.mem_of_mem_take hx)
        · exact h2 x (List.mem_of_mem_drop hx)
  · rintro ⟨i, j, hi, hj, hne, hd, hr⟩
    obtain ⟨is, i1, i2, i3⟩ := mem_rests.mp hr
    have hil : is.length + 2 = ws.length := by
      rw [i1, List.length_append, List.length_take, List.length_drop]
      omega
    have htl : (is.take p).length = p := by rw [List.length_take]; omega
    have hsum : (is.take p).length + 2 + (is.drop p).length = ws.length := by rw [htl, List.length_drop]; omega
    have hdvd := res_dvd.mp i3
    have dm := dot_mid (is.take p) (is.drop p) ws i j hsum
    have dm2 := dot_mid (is.take p) (is.drop p) ws j i hsum
    rw [htl, at0_get hp, at0_get hq, List.take_append_drop] at dm dm2
    have a0 : at0 (is.take p ++ [i, j] ++ is.drop p) p = i := by
      unfold at0
      rw [List.append_assoc, List.getElem?_append_right (by omega), htl]
      simp
    have a1 : at0 (is.take p ++ [i, j] ++ is.drop p) (p + 1) = j := by
      unfold at0
      rw [List.append_assoc, List.getElem?_append_right (by omega), htl]
      simp
    have hsw : swp (is.take p ++ [i, j] ++ is.drop p) p = is.take p ++ [j, i] ++ is.drop p := by
      unfold swp
      rw [a0, a1]
      congr 1
      · congr 1
        rw [List.append_assoc, List.take_append_of_le_length (by omega), List.take_of_length_le (by omega)]
      · rw [List.append_assoc, List.drop_append, htl, List.drop_of_length_le (by omega)]
        have : p + 2 - p = 2 := by omega
        rw [this]
        rfl
    refine ⟨is.take p ++ [i, j] ++ is.drop p, mem_right.mpr ⟨by rw [List.length_append, List.length_append]; simp; omega, fun x hx => ?_, by rw [dm]; exact hdvd⟩, ?_⟩
    · rcases List.mem_append.mp hx with hx | hx
      · rcases List.mem_append.mp hx with hx | hx
        · exact i2 x (List.mem_of_mem_take hx)
        · rcases List.mem_cons.mp hx with rfl | hx
          · exact hi
          · rw [List.mem_singleton.mp hx]; exact hj
      · exact i2 x (List.mem_of_mem_drop hx)
    · unfold swapB
      rw [a0, a1, hsw, Bool.and_eq_true, R_dvd, dm2]
      refine ⟨by simpa using hne, ?_⟩
      have h5 := Int.dvd_of_emod_eq_zero (Int.emod_eq_emod_iff_emod_sub_eq_zero.mp (swap_dvd.mpr hd))
      have := Int.dvd_sub hdvd h5
      have e : j * ws[p] + i * ws[p + 1] + dot is (ws.take p ++ ws.drop (p + 2)) = i * ws[p] + j * ws[p + 1] + dot is (ws.take p ++ ws.drop (p + 2)) - (i * ws[p] + j * ws[p + 1] - (j * ws[p] + i * ws[p + 1])) := by omega
      rw [e]
      exact this
end K92

namespace K92
open PySem PySem.Spec PyProof.Rows L2 GxR DL
theorem numbers_eq {ws : List Int} {b : Int} (hb : 0 < b) (h3 : ws.length ≤ 3) : mf__law_numbers [sch ws b] = some (.list ((rightRows ws b).map tupI)) := by
  unfold mf__law_numbers
  simp only [asSch_eq]
  exact if_pos ⟨hb, h3⟩
theorem rows_ok {ws : List Int} {b : Int} : ∀ r ∈ rightRows ws b, r.length = ws.length ∧ dig r = true := fun r hr => by
  obtain ⟨h1, h2, _⟩ := mem_right.mp hr
  exact ⟨h1, dig_iff.mpr h2⟩
theorem rows_few {ws : List Int} {b : Int} (h3 : ws.length ≤ 3) : (rightRows ws b).length ≤ 1000 := by
  have h1 := List.length_filter_le (R ws b) (rowsOf ws.length)
  rw [rows_len] at h1
  have : ws.length = 0 ∨ ws.length = 1 ∨ ws.length = 2 ∨ ws.length = 3 := by omega
  have h2 : 10 ^ ws.length ≤ 1000 := by rcases this with e | e | e | e <;> rw [e] <;> decide
  exact Nat.le_trans h1 h2
def smallB : SM :=
    (sIf (tE (eB dLt (eV 4) (eC (.int 4)))) (sSeq (sSet (gN 14) (eCall mf__law_numbers (eAc (eV 5) eA0)))
    (sSeq (sFor (iR1 (eAc (eV 4) eA0)) (gN 10) sm1B) (sFor (iR1 (eAc (eB dSub (eV 4) (eC (.int 1))) eA0)) (gN 10) sm2B))) sNil)
theorem seg_sm1 (s0 x2 : SV) (ws : List Int) (b : Int) (hb : 0 < b) (h3 : ws.length ≤ 3) (Φ : Fl → Prop) (l : List Int) (x7 x8 x9 x11 x12 x13 : SV)
    (h : ∀ x10 x15, Φ (.nx (EV s0 x2 ws b l x7 x8 x9 x10 x11 x12 x13 (.fz (.list ((rightRows ws b).map tupI))) x15))) (x10 x15 : SV) :
    sFor (iR1 (eAc (eV 4) eA0)) (gN 10) sm1B (EV s0 x2 ws b l x7 x8 x9 x10 x11 x12 x13 (.fz (.list ((rightRows ws b).map tupI))) x15) Φ := by
  have hs : small62 (ws.length : Int) = true := small_10 (Nat.le_trans h3 (by decide))
  rw [sFor_ap]
  simp only [EV, eC_ap, eV_ap, eB_ap, eU_ap, eAnd_ap, eOr_ap, tE_ap, tAnd_ap, tOr_ap, tNot_ap, eIf_ap, eCh_ap, eA0_ap, eAc_ap, eAs_ap, eTup_ap, eLs_ap, eOfL_ap, eIxO_ap, eP0_ap, ePs_ap, eSl_ap, iW_ap, iR1_ap, iR2_ap, iZp_ap, gN_ap, gNilD_ap, gConsD_ap, gTupD_ap, cYes_ap, sNil_ap, sSeq_ap, sIf_ap, sRet_ap, sRetN_ap, sSet_ap, sSetO_ap, sExp_ap, sBrk_ap, sCont_ap, sApp_ap, ePop_ap, sPut_ap, eCall_ap, eCallO_ap, eLenO_ap, sDk0_ap, sDput_ap, eSrtDk_ap, eDget_ap, eDin_ap, eRevO_ap, eLenS_ap, eIxS_ap, iSq_ap, nSeq_ap, nRet_ap, sDraws_ap, sAug_ap, sPar_ap, unE, reE, keepF, dIs, dNot, dNeg, dIsT, isTy, tyOf, rets, retsO, List.getElem?_cons_zero, List.getElem?_cons_succ, List.set_cons_zero, List.set_cons_succ, List.length_cons, List.length_nil, List.length_map, List.length_set, Nat.reduceAdd, Nat.reduceSub, Nat.reduceLT, Nat.reduceLeDiff, dAdd_i, dAdd_l, dAdd_t, dSub_i, dMul_i, dDiv_i, dModI_i, dLt_i, dLe_i, dGt_i, dGe_i, dEq_i, dNe_i, dEq_b, dNe_b, if_true, if_false, decide_true, decide_false, Bool.false_eq_true, Bool.not_true, Bool.not_false, and_true, true_and, and_self, or_true, true_or, reduceIte, Int.reduceNeg, Int.reducePow, Int.reduceLT, Int.reduceLE, Int.reduceGT, Int.reduceAdd, Int.reduceMul, Int.reduceSub, Int.reduceToNat, Nat.reducePow, Nat.reduceMul, Nat.reduceEqDiff, Int.reduceBEq, or_self, and_false, false_and, false_or, or_false, Bool.and_true, Bool.true_and, Bool.and_false, Bool.false_and, Bool.and_self, List.length_append, dAbs_i, Int.cast_ofNat_Int, beq_self_eq_true, String.reduceBEq, zip_l, zip_t, walk_l, walk_t, items_l, items_t, dLen_l, dLen_t, dTuple_l, dTuple_t, dList_l, dList_t, dInt_i, dSl_l, dSl_t, dIsNot_b, Bool.true_or, Bool.or_true, Bool.or_false, Bool.false_or, hs]
  refine wFor_pass (fun env => ∃ x10 x15, env = EV s0 x2 ws b l x7 x8 x9 x10 x11 x12 x13 (.fz (.list ((rightRows ws b).map tupI))) x15) _ _ ⟨x10, x15, rfl⟩ ?_ ?_
  · rintro d hd env ⟨y10, y15, rfl⟩ K hK
    obtain ⟨i, rfl, h0, h1⟩ := rng_mem hd
    obtain ⟨p, rfl⟩ : ∃ p : Nat, i = (p : Int) := ⟨i.toNat, by omega⟩
    have hp : p < ws.length := by omega
    exact ⟨EV s0 x2 ws b l x7 x8 x9 (.fz (.int (p : Int))) x11 x12 x13 (.fz (.list ((rightRows ws b).map tupI))) y15, rfl, sm1_step s0 x2 ws b hb (Nat.le_trans h3 (by decide)) p hp _ rows_ok (rows_few h3) (maths3 hp) _ l x7 x8 x9 x11 x12 x13 y15 fun z => hK _ ⟨_, _, rfl⟩⟩
  · rintro env ⟨y10, y15, rfl⟩
    exact h _ _
theorem seg_sm2 (s0 x2 : SV) (ws : List Int) (b : Int) (hb : 0 < b) (hb2 : b ≤ 100) (h2 : 2 ≤ ws.length) (h3 : ws.length ≤ 3) (Φ : Fl → Prop) (l : List Int) (x7 x8 x9 x11 x12 x13 : SV)
    (h : ∀ x10 x15, Φ (.nx (EV s0 x2 ws b l x7 x8 x9 x10 x11 x12 x13 (.fz (.list ((rightRows ws b).map tupI))) x15))) (x10 x15 : SV) :
    sFor (iR1 (eAc (eB dSub (eV 4) (eC (.int 1))) eA0)) (gN 10) sm2B (EV s0 x2 ws b l x7 x8 x9 x10 x11 x12 x13 (.fz (.list ((rightRows ws b).map tupI))) x15) Φ := by
  have h10 : ws.length ≤ 10 := Nat.le_trans h3 (by decide)
  have hs := sub_small h2 h10
  rw [sFor_ap]
  simp only [EV, eC_ap, eV_ap, eB_ap, eU_ap, eAnd_ap, eOr_ap, tE_ap, tAnd_ap, tOr_ap, tNot_ap, eIf_ap, eCh_ap, eA0_ap, eAc_ap, eAs_ap, eTup_ap, eLs_ap, eOfL_ap, eIxO_ap, eP0_ap, ePs_ap, eSl_ap, iW_ap, iR1_ap, iR2_ap, iZp_ap, gN_ap, gNilD_ap, gConsD_ap, gTupD_ap, cYes_ap, sNil_ap, sSeq_ap, sIf_ap, sRet_ap, sRetN_ap, sSet_ap, sSetO_ap, sExp_ap, sBrk_ap, sCont_ap, sApp_ap, ePop_ap, sPut_ap, eCall_ap, eCallO_ap, eLenO_ap, sDk0_ap, sDput_ap, eSrtDk_ap, eDget_ap, eDin_ap, eRevO_ap, eLenS_ap, eIxS_ap, iSq_ap, nSeq_ap, nRet_ap, sDraws_ap, sAug_ap, sPar_ap, unE, reE, keepF, dIs, dNot, dNeg, dIsT, isTy, tyOf, rets, retsO, List.getElem?_cons_zero, List.getElem?_cons_succ, List.set_cons_zero, List.set_cons_succ, List.length_cons, List.length_nil, List.length_map, List.length_set, Nat.reduceAdd, Nat.reduceSub, Nat.reduceLT, Nat.reduceLeDiff, dAdd_i, dAdd_l, dAdd_t, dSub_i, dMul_i, dDiv_i, dModI_i, dLt_i, dLe_i, dGt_i, dGe_i, dEq_i, dNe_i, dEq_b, dNe_b, if_true, if_false, decide_true, decide_false, Bool.false_eq_true, Bool.not_true, Bool.not_false, and_true, true_and, and_self, or_true, true_or, reduceIte, Int.reduceNeg, Int.reducePow, Int.reduceLT, Int.reduceLE, Int.reduceGT, Int.reduceAdd, Int.reduceMul, Int.reduceSub, Int.reduceToNat, Nat.reducePow, Nat.reduceMul, Nat.reduceEqDiff, Int.reduceBEq, or_self, and_false, false_and, false_or, or_false, Bool.and_true, Bool.true_and, Bool.and_false, Bool.false_and, Bool.and_self, List.length_append, dAbs_i, Int.cast_ofNat_Int, beq_self_eq_true, String.reduceBEq, zip_l, zip_t, walk_l, walk_t, items_l, items_t, dLen_l, dLen_t, dTuple_l, dTuple_t, dList_l, dList_t, dInt_i, dSl_l, dSl_t, dIsNot_b, Bool.true_or, Bool.or_true, Bool.or_false, Bool.false_or, hs]
  refine wFor_pass (fun env => ∃ x10 x15, env = EV s0 x2 ws b l x7 x8 x9 x10 x11 x12 x13 (.fz (.list ((rightRows ws b).map tupI))) x15) _ _ ⟨x10, x15, rfl⟩ ?_ ?_
  · rintro d hd env ⟨y10, y15, rfl⟩ K hK
    obtain ⟨i, rfl, h0, h1⟩ := rng_mem hd
    obtain ⟨p, rfl⟩ : ∃ p : Nat, i = (p : Int) := ⟨i.toNat, by omega⟩
    have hp : p < ws.length := by omega
    have hq : p + 1 < ws.length := by omega
    exact ⟨EV s0 x2 ws b l x7 x8 x9 (.fz (.int (p : Int))) x11 x12 x13 (.fz (.list ((rightRows ws b).map tupI))) y15, rfl, sm2_step s0 x2 ws b hb hb2 h10 p hp hq _ rows_ok (rows_few h3) (maths4 hp hq) _ l x7 x8 x9 x11 x12 x13 y15 fun z => hK _ ⟨_, _, rfl⟩⟩
  · rintro env ⟨y10, y15, rfl⟩
    exact h _ _
theorem seg_small (s0 x2 : SV) (ws : List Int) (b : Int) (hb : 0 < b) (hb2 : b ≤ 100) (h2 : 2 ≤ ws.length) (Φ : Fl → Prop) (l : List Int) (x7 x8 x9 x11 x12 x13 : SV)
    (h : ∀ x10 x14 x15, Φ (.nx (EV s0 x2 ws b l x7 x8 x9 x10 x11 x12 x13 x14 x15))) (x10 x14 x15 : SV) :
    smallB (EV s0 x2 ws b l x7 x8 x9 x10 x11 x12 x13 x14 x15) Φ := by
  unfold smallB
  by_cases h4 : (ws.length : Int) < 4
  · have h3 : ws.length ≤ 3 := by omega
    have hn := numbers_eq (b := b) hb h3
    simp only [EV, eC_ap, eV_ap, eB_ap, eU_ap, eAnd_ap, eOr_ap, tE_ap, tAnd_ap, tOr_ap, tNot_ap, eIf_ap, eCh_ap, eA0_ap, eAc_ap, eAs_ap, eTup_ap, eLs_ap, eOfL_ap, eIxO_ap, eP0_ap, ePs_ap, eSl_ap, iW_ap, iR1_ap, iR2_ap, iZp_ap, gN_ap, gNilD_ap, gConsD_ap, gTupD_ap, cYes_ap, sNil_ap, sSeq_ap, sIf_ap, sRet_ap, sRetN_ap, sSet_ap, sSetO_ap, sExp_ap, sBrk_ap, sCont_ap, sApp_ap, ePop_ap, sPut_ap, eCall_ap, eCallO_ap, eLenO_ap, sDk0_ap, sDput_ap, eSrtDk_ap, eDget_ap, eDin_ap, eRevO_ap, eLenS_ap, eIxS_ap, iSq_ap, nSeq_ap, nRet_ap, sDraws_ap, sAug_ap, sPar_ap, unE, reE, keepF, dIs, dNot, dNeg, dIsT, isTy, tyOf, rets, retsO, List.getElem?_cons_zero, List.getElem?_cons_succ, List.set_cons_zero, List.set_cons_succ, List.length_cons, List.length_nil, List.length_map, List.length_set, Nat.reduceAdd, Nat.reduceSub, Nat.reduceLT, Nat.reduceLeDiff, dAdd_i, dAdd_l, dAdd_t, dSub_i, dMul_i, dDiv_i, dModI_i, dLt_i, dLe_i, dGt_i, dGe_i, dEq_i, dNe_i, dEq_b, dNe_b, if_true, if_false, decide_true, decide_false, Bool.false_eq_true, Bool.not_true, Bool.not_false, and_true, true_and, and_self, or_true, true_or, reduceIte, Int.reduceNeg, Int.reducePow, Int.reduceLT, Int.reduceLE, Int.reduceGT, Int.reduceAdd, Int.reduceMul, Int.reduceSub, Int.reduceToNat, Nat.reducePow, Nat.reduceMul, Nat.reduceEqDiff, Int.reduceBEq, or_self, and_false, false_and, false_or, or_false, Bool.and_true, Bool.true_and, Bool.and_false, Bool.false_and, Bool.and_self, List.length_append, dAbs_i, Int.cast_ofNat_Int, beq_self_eq_true, String.reduceBEq, zip_l, zip_t, walk_l, walk_t, items_l, items_t, dLen_l, dLen_t, dTuple_l, dTuple_t, dList_l, dList_t, dInt_i, dSl_l, dSl_t, dIsNot_b, Bool.true_or, Bool.or_true, Bool.or_false, Bool.false_or, h4, hn]
    exact seg_sm1 s0 x2 ws b hb h3 _ l x7 x8 x9 x11 x12 x13 (fun y10 y15 => seg_sm2 s0 x2 ws b hb hb2 h2 h3 _ l x7 x8 x9 x11 x12 x13 (fun z10 z15 => h _ _ _) y10 y15) x10 x15
  · simp only [EV, eC_ap, eV_ap, eB_ap, eU_ap, eAnd_ap, eOr_ap, tE_ap, tAnd_ap, tOr_ap, tNot_ap, eIf_ap, eCh_ap, eA0_ap, eAc_ap, eAs_ap, eTup_ap, eLs_ap, eOfL_ap, eIxO_ap, eP0_ap, ePs_ap, eSl_ap, iW_ap, iR1_ap, iR2_ap, iZp_ap, gN_ap, gNilD_ap, gConsD_ap, gTupD_ap, cYes_ap, sNil_ap, sSeq_ap, sIf_ap, sRet_ap, sRetN_ap, sSet_ap, sSetO_ap, sExp_ap, sBrk_ap, sCont_ap, sApp_ap, ePop_ap, sPut_ap, eCall_ap, eCallO_ap, eLenO_ap, sDk0_ap, sDput_ap, eSrtDk_ap, eDget_ap, eDin_ap, eRevO_ap, eLenS_ap, eIxS_ap, iSq_ap, nSeq_ap, nRet_ap, sDraws_ap, sAug_ap, sPar_ap, unE, reE, keepF, dIs, dNot, dNeg, dIsT, isTy, tyOf, rets, retsO, List.getElem?_cons_zero, List.getElem?_cons_succ, List.set_cons_zero, List.set_cons_succ, List.length_cons, List.length_nil, List.length_map, List.length_set, Nat.reduceAdd, Nat.reduceSub, Nat.reduceLT, Nat.reduceLeDiff, dAdd_i, dAdd_l, dAdd_t, dSub_i, dMul_i, dDiv_i, dModI_i, dLt_i, dLe_i, dGt_i, dGe_i, dEq_i, dNe_i, dEq_b, dNe_b, if_true, if_false, decide_true, decide_false, Bool.false_eq_true, Bool.not_true, Bool.not_false, and_true, true_and, and_self, or_true, true_or, reduceIte, Int.reduceNeg, Int.reducePow, Int.reduceLT, Int.reduceLE, Int.reduceGT, Int.reduceAdd, Int.reduceMul, Int.reduceSub, Int.reduceToNat, Nat.reducePow, Nat.reduceMul, Nat.reduceEqDiff, Int.reduceBEq, or_self, and_false, false_and, false_or, or_false, Bool.and_true, Bool.true_and, Bool.and_false, Bool.false_and, Bool.and_self, List.length_append, dAbs_i, Int.cast_ofNat_Int, beq_self_eq_true, String.reduceBEq, zip_l, zip_t, walk_l, walk_t, items_l, items_t, dLen_l, dLen_t, dTuple_l, dTuple_t, dList_l, dList_t, dInt_i, dSl_l, dSl_t, dIsNot_b, Bool.true_or, Bool.or_true, Bool.or_false, Bool.false_or, h4]
    exact h _ _ _
end K92

namespace K92
open PySem PySem.Spec PyProof.Rows L2 GxR DL
/-! ### what is no number, what is no scheme -/
theorem bar_f {ws : List Int} {b : Int} {v : D} (h1 : okBar v = true) (h2 : isBar ws.length v = false) : mf_is_bar_number [sch ws b, v] = some (.bool false) := by
  unfold mf_is_bar_number
  simp only [asSch_eq, h1, h2, if_true]
theorem sch_f {v : D} (h1 : okSch v = true) (h2 : isSch v = false) : mf_is_scheme [v] = some (.bool false) := by
  unfold mf_is_scheme
  simp only [h1, h2, if_true]
theorem nil_eq : dEq (.list []) (.list []) = some (.bool true) := (Eq.refl _).trans (Eq.refl _)
section
variable (n0 n1 n2 n3 n4 n6 n7 n8 n9 n10 n11 n12 n13 n14 n15 n16 n17 n18 n19 n20 : SV)
theorem seg_bar0 (ws : List Int) (b : Int) : ∀ xs : List D, (∀ x ∈ xs, mf_is_bar_number [sch ws b, x] = some (.bool false)) →
    cLoop [21] (gN 21) (tE (eB dIsNot (eCall mf_is_bar_number (eAc (eV 5) (eAc (eV 21) eA0))) (eC (.bool false)))) (eV 21) xs [n0, n1, n2, n3, n4, .fz (sch ws b), n6, n7, n8, n9, n10, n11, n12, n13, n14, n15, n16, n17, n18, n19, n20, .un] =
      some ([], [n0, n1, n2, n3, n4, .fz (sch ws b), n6, n7, n8, n9, n10, n11, n12, n13, n14, n15, n16, n17, n18, n19, n20, .un])
  | [], _ => rfl
  | x :: xs, h => by
    have ih := seg_bar0 ws b xs fun y hy => h y (List.mem_cons_of_mem _ hy)
    have hx := h x List.mem_cons_self
    rw [cLoop]
    simp only [eC_ap, eV_ap, eB_ap, eU_ap, eAnd_ap, eOr_ap, tE_ap, tAnd_ap, tOr_ap, tNot_ap, eIf_ap, eCh_ap, eA0_ap, eAc_ap, eAs_ap, eTup_ap, eLs_ap, eOfL_ap, eIxO_ap, eP0_ap, ePs_ap, eSl_ap, iW_ap, iR1_ap, iR2_ap, iZp_ap, gN_ap, gNilD_ap, gConsD_ap, gTupD_ap, cYes_ap, sNil_ap, sSeq_ap, sIf_ap, sRet_ap, sRetN_ap, sSet_ap, sSetO_ap, sExp_ap, sBrk_ap, sCont_ap, sApp_ap, ePop_ap, sPut_ap, eCall_ap, eCallO_ap, eLenO_ap, sDk0_ap, sDput_ap, eSrtDk_ap, eDget_ap, eDin_ap, eRevO_ap, eLenS_ap, eIxS_ap, iSq_ap, nSeq_ap, nRet_ap, sDraws_ap, sAug_ap, sPar_ap, unE, reE, keepF, dIs, dNot, dNeg, dIsT, isTy, tyOf, rets, retsO, List.getElem?_cons_zero, List.getElem?_cons_succ, List.set_cons_zero, List.set_cons_succ, List.length_cons, List.length_nil, List.length_map, List.length_set, Nat.reduceAdd, Nat.reduceSub, Nat.reduceLT, Nat.reduceLeDiff, dAdd_i, dAdd_l, dAdd_t, dSub_i, dMul_i, dDiv_i, dModI_i, dLt_i, dLe_i, dGt_i, dGe_i, dEq_i, dNe_i, dEq_b, dNe_b, if_true, if_false, decide_true, decide_false, Bool.false_eq_true, Bool.not_true, Bool.not_false, and_true, true_and, and_self, or_true, true_or, reduceIte, Int.reduceNeg, Int.reducePow, Int.reduceLT, Int.reduceLE, Int.reduceGT, Int.reduceAdd, Int.reduceMul, Int.reduceSub, Int.reduceToNat, Nat.reducePow, Nat.reduceMul, Nat.reduceEqDiff, Int.reduceBEq, or_self, and_false, false_and, false_or, or_false, Bool.and_true, Bool.true_and, Bool.and_false, Bool.false_and, Bool.and_self, List.length_append, dAbs_i, Int.cast_ofNat_Int, beq_self_eq_true, String.reduceBEq, zip_l, zip_t, walk_l, walk_t, items_l, items_t, dLen_l, dLen_t, dTuple_l, dTuple_t, dList_l, dList_t, dInt_i, dSl_l, dSl_t, dIsNot_b, Bool.true_or, Bool.or_true, Bool.or_false, Bool.false_or, hx, ih]
theorem seg_sch0 : ∀ (n5 : SV) (xs : List D), (∀ x ∈ xs, mf_is_scheme [x] = some (.bool false)) →
    cLoop [21] (gN 21) (tE (eB dIsNot (eCall mf_is_scheme (eAc (eV 21) eA0)) (eC (.bool false)))) (eV 21) xs [n0, n1, n2, n3, n4, n5, n6, n7, n8, n9, n10, n11, n12, n13, n14, n15, n16, n17, n18, n19, n20, .un] =
      some ([], [n0, n1, n2, n3, n4, n5, n6, n7, n8, n9, n10, n11, n12, n13, n14, n15, n16, n17, n18, n19, n20, .un])
  | n5, [], _ => rfl
  | n5, x :: xs, h => by
    have ih := seg_sch0 n5 xs fun y hy => h y (List.mem_cons_of_mem _ hy)
    have hx := h x List.mem_cons_self
    rw [cLoop]
    simp only [eC_ap, eV_ap, eB_ap, eU_ap, eAnd_ap, eOr_ap, tE_ap, tAnd_ap, tOr_ap, tNot_ap, eIf_ap, eCh_ap, eA0_ap, eAc_ap, eAs_ap, eTup_ap, eLs_ap, eOfL_ap, eIxO_ap, eP0_ap, ePs_ap, eSl_ap, iW_ap, iR1_ap, iR2_ap, iZp_ap, gN_ap, gNilD_ap, gConsD_ap, gTupD_ap, cYes_ap, sNil_ap, sSeq_ap, sIf_ap, sRet_ap, sRetN_ap, sSet_ap, sSetO_ap, sExp_ap, sBrk_ap, sCont_ap, sApp_ap, ePop_ap, sPut_ap, eCall_ap, eCallO_ap, eLenO_ap, sDk0_ap, sDput_ap, eSrtDk_ap, eDget_ap, eDin_ap, eRevO_ap, eLenS_ap, eIxS_ap, iSq_ap, nSeq_ap, nRet_ap, sDraws_ap, sAug_ap, sPar_ap, unE, reE, keepF, dIs, dNot, dNeg, dIsT, isTy, tyOf, rets, retsO, List.getElem?_cons_zero, List.getElem?_cons_succ, List.set_cons_zero, List.set_cons_succ, List.length_cons, List.length_nil, List.length_map, List.length_set, Nat.reduceAdd, Nat.reduceSub, Nat.reduceLT, Nat.reduceLeDiff, dAdd_i, dAdd_l, dAdd_t, dSub_i, dMul_i, dDiv_i, dModI_i, dLt_i, dLe_i, dGt_i, dGe_i, dEq_i, dNe_i, dEq_b, dNe_b, if_true, if_false, decide_true, decide_false, Bool.false_eq_true, Bool.not_true, Bool.not_false, and_true, true_and, and_self, or_true, true_or, reduceIte, Int.reduceNeg, Int.reducePow, Int.reduceLT, Int.reduceLE, Int.reduceGT, Int.reduceAdd, Int.reduceMul, Int.reduceSub, Int.reduceToNat, Nat.reducePow, Nat.reduceMul, Nat.reduceEqDiff, Int.reduceBEq, or_self, and_false, false_and, false_or, or_false, Bool.and_true, Bool.true_and, Bool.and_false, Bool.false_and, Bool.and_self, List.length_append, dAbs_i, Int.cast_ofNat_Int, beq_self_eq_true, String.reduceBEq, zip_l, zip_t, walk_l, walk_t, items_l, items_t, dLen_l, dLen_t, dTuple_l, dTuple_t, dList_l, dList_t, dInt_i, dSl_l, dSl_t, dIsNot_b, Bool.true_or, Bool.or_true, Bool.or_false, Bool.false_or, hx, ih]
end
theorem all_ok (us : List Int) : (us.map PyData.int).all okItem = true := by
  rw [List.all_map]
  exact List.all_eq_true.mpr fun x _ => rfl
def wrongL (ns : List Int) : List D := [.list (ns.map .int), tupI (ns.drop 1), tupI (ns ++ [0]), .none, .str "number", tupI ([10] ++ ns.drop 1), tupI ([-1] ++ ns.drop 1), .tuple ([.none] ++ (ns.drop 1).map .int), .tuple ([.bool true] ++ (ns.drop 1).map .int)]
theorem wrong_all {ws ns : List Int} {b : Int} (hl : ns.length = ws.length) (h2 : 2 ≤ ws.length) : ∀ x ∈ wrongL ns, mf_is_bar_number [sch ws b, x] = some (.bool false) := by
  intro x hx
  unfold wrongL at hx
  simp only [List.mem_cons, List.not_mem_nil, or_false] at hx
  have hd : (ns.drop 1).length = ns.length - 1 := List.length_drop
  rcases hx with rfl | rfl | rfl | rfl | rfl | rfl | rfl | rfl | rfl
  · exact bar_f rfl rfl
  · refine bar_f (all_ok _) ?_
    have : ¬ ns.length - 1 = ws.length := by omega
    simp [isBar, tupI, this]
  · refine bar_f (all_ok _) ?_
    have : ¬ ns.length + 1 = ws.length := by omega
    simp [isBar, tupI, this]
  · exact bar_f rfl rfl
  · exact bar_f rfl rfl
  · refine bar_f (all_ok _) ?_
    simp [isBar, tupI, isNum]
  · refine bar_f (all_ok _) ?_
    simp [isBar, tupI, isNum]
  · refine bar_f ?_ ?_
    · show ([PyData.none] ++ (ns.drop 1).map PyData.int).all okItem = true
      rw [List.all_append, all_ok]
      rfl
    · simp [isBar, isNum]
  · refine bar_f ?_ ?_
    · show ([PyData.bool true] ++ (ns.drop 1).map PyData.int).all okItem = true
      rw [List.all_append, all_ok]
      rfl
    · simp [isBar, isNum]
def oddL (ws : List Int) (b : Int) : List D := [.tuple [tupI ws], .tuple [tupI ws, .int b, .int 0], .list [tupI ws, .int b], .tuple [.tuple [.int 1], .int b], .tuple [.tuple (List.replicate 11 [PyData.int 1]).flatten, .int b], .tuple [.list (ws.map .int), .int b], .tuple [.tuple [.int 0, .int 1], .int b], .tuple [.tuple [.int 97, .int 1], .int b], .tuple [.tuple [.none, .int 1], .int b], .tuple [.tuple [.bool true, .int 1], .int b]]
def oddL2 (ws : List Int) : List D := [.tuple [tupI ws, .int 1], .tuple [tupI ws, .int 98], .tuple [tupI ws, .none], .tuple [tupI ws, .bool true], .none, .str "scheme"]
theorem okSch_w (ws : List Int) {d : D} (h : okItem d = true) : okSch (.tuple [tupI ws, d]) = true := by
  show ((ws.map PyData.int).all okItem && okItem d) = true
  rw [all_ok, h]
  rfl
theorem isSch_w (ws : List Int) {d : D} (h : isNum d 2 97 = false) : isSch (.tuple [tupI ws, d]) = false := by
  show (decide (2 ≤ (ws.map PyData.int).length) && decide ((ws.map PyData.int).length ≤ 10) && (ws.map PyData.int).all (fun x => isNum x 1 96) && isNum d 2 97) = false
  rw [h, Bool.and_false]
theorem odd_all {ws : List Int} {b : Int} : ∀ x ∈ oddL ws b ++ oddL2 ws, mf_is_scheme [x] = some (.bool false) := by
  intro x hx
  unfold oddL oddL2 at hx
  simp only [List.cons_append, List.nil_append, List.mem_cons, List.not_mem_nil, or_false] at hx
  rcases hx with rfl | rfl | rfl | rfl | rfl | rfl | rfl | rfl | rfl | rfl | rfl | rfl | rfl | rfl | rfl | rfl
  · exact sch_f rfl rfl
  · exact sch_f rfl rfl
  · exact sch_f rfl rfl
  · exact sch_f rfl rfl
  · exact sch_f rfl rfl
  · exact sch_f rfl rfl
  · exact sch_f rfl rfl
  · exact sch_f rfl rfl
  · exact sch_f rfl rfl
  · exact sch_f rfl rfl
  · exact sch_f (okSch_w ws rfl) (isSch_w ws rfl)
  · exact sch_f (okSch_w ws rfl) (isSch_w ws rfl)
  · exact sch_f (okSch_w ws rfl) (isSch_w ws rfl)
  · exact sch_f (okSch_w ws rfl) (isSch_w ws rfl)
  · exact sch_f rfl rfl
  · exact sch_f rfl rfl
end K92

namespace K92
open PySem PySem.Spec PyProof.Rows L2 GxR DL
def lastB : SM :=
    (sSeq (sSet (gN 16) (eOfL (eLs (eAc (eCall dList (eAc (eV 8) eA0)) (eAc (eSl (eV 8) (ePs (eC (.int 1))) eP0) (eAc (eB dAdd (eV 8) (eTup (eAc (eC (.int 0)) eA0))) (eAc (eC .none) (eAc (eC (.str "number")) (eAc (eB dAdd (eTup (eAc (eC (.int 10)) eA0)) (eSl (eV 8) (ePs (eC (.int 1))) eP0)) (eAc (eB dAdd (eTup (eAc (eU dNeg (eC (.int 1))) eA0)) (eSl (eV 8) (ePs (eC (.int 1))) eP0)) (eAc (eB dAdd (eTup (eAc (eC .none) eA0)) (eSl (eV 8) (ePs (eC (.int 1))) eP0)) (eAc (eB dAdd (eTup (eAc (eC (.bool true)) eA0)) (eSl (eV 8) (ePs (eC (.int 1))) eP0)) eA0))))))))))))
    (sSeq (sSet (gN 17) (eOfL (eLs (eAc (eTup (eAc (eV 6) eA0)) (eAc (eTup (eAc (eV 6) (eAc (eV 3) (eAc (eC (.int 0)) eA0)))) (eAc (eCall dList (eAc (eV 5) eA0)) (eAc (eTup (eAc (eTup (eAc (eC (.int 1)) eA0)) (eAc (eV 3) eA0))) (eAc (eTup (eAc (eB dMul (eTup (eAc (eC (.int 1)) eA0)) (eC (.int 11))) (eAc (eV 3) eA0))) (eAc (eTup (eAc (eCall dList (eAc (eV 6) eA0)) (eAc (eV 3) eA0))) (eAc (eTup (eAc (eTup (eAc (eC (.int 0)) (eAc (eC (.int 1)) eA0))) (eAc (eV 3) eA0))) (eAc (eTup (eAc (eTup (eAc (eC (.int 97)) (eAc (eC (.int 1)) eA0))) (eAc (eV 3) eA0))) (eAc (eTup (eAc (eTup (eAc (eC .none) (eAc (eC (.int 1)) eA0))) (eAc (eV 3) eA0))) (eAc (eTup (eAc (eTup (eAc (eC (.bool true)) (eAc (eC (.int 1)) eA0))) (eAc (eV 3) eA0))) eA0)))))))))))))
    (sSeq (sSet (gN 17) (eB dAdd (eV 17) (eOfL (eLs (eAc (eTup (eAc (eV 6) (eAc (eC (.int 1)) eA0))) (eAc (eTup (eAc (eV 6) (eAc (eC (.int 98)) eA0))) (eAc (eTup (eAc (eV 6) (eAc (eC .none) eA0))) (eAc (eTup (eAc (eV 6) (eAc (eC (.bool true)) eA0))) (eAc (eC .none) (eAc (eC (.str "scheme")) eA0))))))))))
    (sRet (eAnd (eB dEq (eOfL (cC [21] (iW (eV 16)) (gN 21) (tE (eB dIsNot (eCall mf_is_bar_number (eAc (eV 5) (eAc (eV 21) eA0))) (eC (.bool false)))) (eV 21))) (eOfL (eLs eA0))) (eB dEq (eOfL (cC [21] (iW (eV 17)) (gN 21) (tE (eB dIsNot (eCall mf_is_scheme (eAc (eV 21) eA0)) (eC (.bool false)))) (eV 21))) (eOfL (eLs eA0))))))))
theorem list_tup (ns : List Int) : dList [tupI ns] = some (.list (ns.map .int)) := (Eq.refl _).trans (Eq.refl _)
theorem list_sch (ws : List Int) (b : Int) : dList [sch ws b] = some (.list [tupI ws, .int b]) := (Eq.refl _).trans (Eq.refl _)
theorem tadd (xs : List D) (us : List Int) (h : xs.length + us.length ≤ 1000) : dAdd (.tuple xs) (tupI us) = some (.tuple (xs ++ us.map .int)) := by
  unfold tupI
  rw [dAdd_t, if_pos (line_small (by rw [List.length_map]; omega))]
theorem mul11 : dMul (.tuple [.int 1]) (.int 11) = some (.tuple (List.replicate 11 [PyData.int 1]).flatten) := by
  unfold dMul
  exact if_pos (by decide)
theorem drop_1 (ns : List Int) : dSl (tupI ns) (some 1) none = some (tupI (ns.drop 1)) := tup_drop ns 1
theorem add_0 (ns : List Int) (h : ns.length ≤ 10) : dAdd (tupI ns) (.tuple [.int 0]) = some (tupI (ns ++ [0])) := tup_add ns [0] (by simp; omega)
theorem add_10 (ns : List Int) (h : ns.length ≤ 10) : dAdd (.tuple [.int 10]) (tupI (ns.drop 1)) = some (tupI ([10] ++ ns.drop 1)) := tup_add [10] (ns.drop 1) (by rw [List.length_drop]; simp; omega)
theorem add_m1 (ns : List Int) (h : ns.length ≤ 10) : dAdd (.tuple [.int (-1)]) (tupI (ns.drop 1)) = some (tupI ([-1] ++ ns.drop 1)) := tup_add [-1] (ns.drop 1) (by rw [List.length_drop]; simp; omega)
theorem last_ok (s0 x2 : SV) (ws ns : List Int) (b : Int) (h2 : 2 ≤ ws.length) (h10 : ws.length ≤ 10) (hl : ns.length = ws.length) (l : List Int) (x7 x9 x10 x11 x12 x13 x14 x15 : SV) :
    lastB (EV s0 x2 ws b l x7 (.fz (tupI ns)) x9 x10 x11 x12 x13 x14 x15) (rets (.bool true)) := by
  unfold lastB
  have hn : ns.length ≤ 10 := by omega
  have z0 : 0 ≤ sizeLine := Nat.zero_le _
  have z1 : 1 ≤ sizeLine := line_small (by decide)
  have z2 : 2 ≤ sizeLine := line_small (by decide)
  have z3 : 3 ≤ sizeLine := line_small (by decide)
  have z6 : 6 ≤ sizeLine := line_small (by decide)
  have z9 : 9 ≤ sizeLine := line_small (by decide)
  have z10 : 10 ≤ sizeLine := line_small (by decide)
  have z16 : 16 ≤ sizeLine := line_small (by decide)
  have a3 := tadd [.none] (ns.drop 1) (by rw [List.length_drop]; simp; omega)
  have a4 := tadd [.bool true] (ns.drop 1) (by rw [List.length_drop]; simp; omega)
  have hb := seg_bar0 s0 (.ow none (l.map .int)) x2 (.fz (.int b)) (.fz (.int (ws.length : Int))) (.fz (tupI ws)) x7 (.fz (tupI ns)) x9 x10 x11 x12 x13 x14 x15 (.fz (.list (wrongL ns))) (.fz (.list (oddL ws b ++ oddL2 ws))) .un .un .un ws b (wrongL ns) (wrong_all hl h2)
  have hs := seg_sch0 s0 (.ow none (l.map .int)) x2 (.fz (.int b)) (.fz (.int (ws.length : Int))) (.fz (tupI ws)) x7 (.fz (tupI ns)) x9 x10 x11 x12 x13 x14 x15 (.fz (.list (wrongL ns))) (.fz (.list (oddL ws b ++ oddL2 ws))) .un .un .un (.fz (sch ws b)) (oddL ws b ++ oddL2 ws) odd_all
  unfold wrongL oddL oddL2 at hb hs
  simp only [EV, eC_ap, eV_ap, eB_ap, eU_ap, eAnd_ap, eOr_ap, tE_ap, tAnd_ap, tOr_ap, tNot_ap, eIf_ap, eCh_ap, eA0_ap, eAc_ap, eAs_ap, eTup_ap, eLs_ap, eOfL_ap, eIxO_ap, eP0_ap, ePs_ap, eSl_ap, iW_ap, iR1_ap, iR2_ap, iZp_ap, gN_ap, gNilD_ap, gConsD_ap, gTupD_ap, cYes_ap, sNil_ap, sSeq_ap, sIf_ap, sRet_ap, sRetN_ap, sSet_ap, sSetO_ap, sExp_ap, sBrk_ap, sCont_ap, sApp_ap, ePop_ap, sPut_ap, eCall_ap, eCallO_ap, eLenO_ap, sDk0_ap, sDput_ap, eSrtDk_ap, eDget_ap, eDin_ap, eRevO_ap, eLenS_ap, eIxS_ap, iSq_ap, nSeq_ap, nRet_ap, sDraws_ap, sAug_ap, sPar_ap, unE, reE, keepF, dIs, dNot, dNeg, dIsT, isTy, tyOf, rets, retsO, List.getElem?_cons_zero, List.getElem?_cons_succ, List.set_cons_zero, List.set_cons_succ, List.length_cons, List.length_nil, List.length_map, List.length_set, Nat.reduceAdd, Nat.reduceSub, Nat.reduceLT, Nat.reduceLeDiff, dAdd_i, dAdd_l, dAdd_t, dSub_i, dMul_i, dDiv_i, dModI_i, dLt_i, dLe_i, dGt_i, dGe_i, dEq_i, dNe_i, dEq_b, dNe_b, if_true, if_false, decide_true, decide_false, Bool.false_eq_true, Bool.not_true, Bool.not_false, and_true, true_and, and_self, or_true, true_or, reduceIte, Int.reduceNeg, Int.reducePow, Int.reduceLT, Int.reduceLE, Int.reduceGT, Int.reduceAdd, Int.reduceMul, Int.reduceSub, Int.reduceToNat, Nat.reducePow, Nat.reduceMul, Nat.reduceEqDiff, Int.reduceBEq, or_self, and_false, false_and, false_or, or_false, Bool.and_true, Bool.true_and, Bool.and_false, Bool.false_and, Bool.and_self, List.length_append, dAbs_i, Int.cast_ofNat_Int, beq_self_eq_true, String.reduceBEq, zip_l, zip_t, walk_l, walk_t, items_l, items_t, dLen_l, dLen_t, dTuple_l, dTuple_t, dList_l, dList_t, dInt_i, dSl_l, dSl_t, dIsNot_b, Bool.true_or, Bool.or_true, Bool.or_false, Bool.false_or, list_tup, list_sch, drop_1, add_0 ns hn, add_10 ns hn, add_m1 ns hn, a3, a4, mul11, z0, z1, z2, z3, z6, z9, z10, z16]
  simp only [cC_ap, eC_ap, eV_ap, eB_ap, eU_ap, eAnd_ap, eOr_ap, tE_ap, tAnd_ap, tOr_ap, tNot_ap, eIf_ap, eCh_ap, eA0_ap, eAc_ap, eAs_ap, eTup_ap, eLs_ap, eOfL_ap, eIxO_ap, eP0_ap, ePs_ap, eSl_ap, iW_ap, iR1_ap, iR2_ap, iZp_ap, gN_ap, gNilD_ap, gConsD_ap, gTupD_ap, cYes_ap, sNil_ap, sSeq_ap, sIf_ap, sRet_ap, sRetN_ap, sSet_ap, sSetO_ap, sExp_ap, sBrk_ap, sCont_ap, sApp_ap, ePop_ap, sPut_ap, eCall_ap, eCallO_ap, eLenO_ap, sDk0_ap, sDput_ap, eSrtDk_ap, eDget_ap, eDin_ap, eRevO_ap, eLenS_ap, eIxS_ap, iSq_ap, nSeq_ap, nRet_ap, sDraws_ap, sAug_ap, sPar_ap, unE, reE, keepF, dIs, dNot, dNeg, dIsT, isTy, tyOf, rets, retsO, List.getElem?_cons_zero, List.getElem?_cons_succ, List.set_cons_zero, List.set_cons_succ, List.length_cons, List.length_nil, List.length_map, List.length_set, Nat.reduceAdd, Nat.reduceSub, Nat.reduceLT, Nat.reduceLeDiff, dAdd_i, dAdd_l, dAdd_t, dSub_i, dMul_i, dDiv_i, dModI_i, dLt_i, dLe_i, dGt_i, dGe_i, dEq_i, dNe_i, dEq_b, dNe_b, if_true, if_false, decide_true, decide_false, Bool.false_eq_true, Bool.not_true, Bool.not_false, and_true, true_and, and_self, or_true, true_or, reduceIte, Int.reduceNeg, Int.reducePow, Int.reduceLT, Int.reduceLE, Int.reduceGT, Int.reduceAdd, Int.reduceMul, Int.reduceSub, Int.reduceToNat, Nat.reducePow, Nat.reduceMul, Nat.reduceEqDiff, Int.reduceBEq, or_self, and_false, false_and, false_or, or_false, Bool.and_true, Bool.true_and, Bool.and_false, Bool.false_and, Bool.and_self, List.length_append, dAbs_i, Int.cast_ofNat_Int, beq_self_eq_true, String.reduceBEq, zip_l, zip_t, walk_l, walk_t, items_l, items_t, dLen_l, dLen_t, dTuple_l, dTuple_t, dList_l, dList_t, dInt_i, dSl_l, dSl_t, dIsNot_b, Bool.true_or, Bool.or_true, Bool.or_false, Bool.false_or, hb, hs, nil_eq, z0]
end K92

namespace K92
open PySem PySem.Spec PyProof.Rows L2 GxR DL
theorem scheme_good {ws : List Int} {b : Int} (h2 : 2 ≤ ws.length) (h10 : ws.length ≤ 10) (hw : ∀ w ∈ ws, 1 ≤ w ∧ w ≤ 96) (hb : 2 ≤ b) (hb2 : b ≤ 97) : mf_is_scheme [sch ws b] = some (.bool true) := by
  have h1 : okSch (sch ws b) = true := okSch_w ws rfl
  have h3 : isSch (sch ws b) = true := by
    show (decide (2 ≤ (ws.map PyData.int).length) && decide ((ws.map PyData.int).length ≤ 10) && (ws.map PyData.int).all (fun x => isNum x 1 96) && isNum (.int b) 2 97) = true
    have ha : (ws.map PyData.int).all (fun x => isNum x 1 96) = true := by
      rw [List.all_map]
      refine List.all_eq_true.mpr fun x hx => ?_
      have := hw x hx
      simp [isNum, this]
    rw [ha]
    simp [isNum, h2, h10, hb, hb2]
  unfold mf_is_scheme
  simp only [h1, h3, if_true]
def mainB : SM := sSeq (sFor (iR1 (eAc (eC (.int 8)) eA0)) (gN 7) turnB) (sSeq (sFor (iR1 (eAc (eV 4) eA0)) (gN 10) pl1B) (sSeq (sFor (iR1 (eAc (eB dSub (eV 4) (eC (.int 1))) eA0)) (gN 10) pl2B) (sSeq smallB lastB)))
theorem main_ok (s0 x2 : SV) (ws : List Int) (b : Int) (hb : 0 < b) (hb2 : b ≤ 100) (h2 : 2 ≤ ws.length) (h10 : ws.length ≤ 10) (l : List Int) (x7 x8 x9 x11 x12 x13 x14 x15 : SV) :
    mainB (EV s0 x2 ws b l x7 x8 x9 .un x11 x12 x13 x14 x15) (rets (.bool true)) := by
  unfold mainB
  rw [sSeq_ap]
  refine seg_turn s0 x2 ws b hb h2 h10 _ x11 x12 x13 x14 x15 (fun l ns y7 y9 hn hd => ?_) l x7 x8 x9
  simp only
  rw [sSeq_ap]
  refine seg_pl1 s0 x2 ws b hb h10 _ l y7 _ y9 x12 x13 x14 x15 (fun y10 y11 => ?_) .un x11
  simp only
  rw [sSeq_ap]
  refine seg_pl2 s0 x2 ws b hb hb2 h2 h10 (maths12 hb) _ l y7 _ y9 y11 x14 x15 (fun z10 y12 y13 => ?_) y10 x12 x13
  simp only
  rw [sSeq_ap]
  refine seg_small s0 x2 ws b hb hb2 h2 _ l y7 _ y9 y11 y12 y13 (fun w10 y14 y15 => ?_) z10 x14 x15
  simp only
  exact last_ok s0 x2 ws ns b h2 h10 hn l y7 y9 w10 y11 y12 y13 y14 y15
end K92

namespace K92
open PySem PySem.Spec PyProof.Rows L2 GxR DL
theorem sem_law : ∀ ns, P63 ns → sm_law (envS N_law ns) (rets (.bool true)) := by
  intro ns hns
  unfold sm_law
  rw [sSeq_ap, sDraws_ap]
  refine ⟨ns, rfl, hns, by simp [envS], fun l => ?_⟩
  have t1 := take_eq l (b := 10) (by decide)
  have t2 := take_eq l.dropLast (b := 3) (by decide)
  obtain ⟨v, hv, pv⟩ := pick3 l.dropLast
  have t3 := take_eq l.dropLast.dropLast (b := 96) (by decide)
  have t4 := take_eq l.dropLast.dropLast.dropLast (b := 3) (by decide)
  obtain ⟨b, hb, pb⟩ := pickB (2 + tk l 10) v (2 + tk l.dropLast.dropLast 96) l.dropLast.dropLast.dropLast
  have t5 := take_eq l.dropLast.dropLast.dropLast.dropLast (b := 4) (by decide)
  obtain ⟨m0, hm0, pm⟩ := pick2 (tk l.dropLast.dropLast.dropLast.dropLast 4 == 0)
  have hm1 : 0 < m0 := by omega
  have t6 := take_eq l.dropLast.dropLast.dropLast.dropLast.dropLast (b := m0) hm1
  have r1 := tk_lt l (b := 10) (by decide)
  have r3 := tk_lt l.dropLast.dropLast (b := 96) (by decide)
  have r6 := tk_lt l.dropLast.dropLast.dropLast.dropLast.dropLast (b := m0) hm1
  have b2 : 2 ≤ b := by omega
  have b97 : b ≤ 97 := by omega
  have z2 : 2 ≤ sizeLine := line_small (by decide)
  have z3 : 3 ≤ sizeLine := line_small (by decide)
  simp only [envS, N_law, List.length_cons, List.length_nil, Nat.reduceAdd, Nat.reduceSub, List.replicate_succ, List.replicate_zero, List.set_cons_succ, List.set_cons_zero]
  simp only [sSeq_ap, sSet_ap]
  simp only [eC_ap, eV_ap, eB_ap, eU_ap, eAnd_ap, eOr_ap, tE_ap, tAnd_ap, tOr_ap, tNot_ap, eIf_ap, eCh_ap, eA0_ap, eAc_ap, eAs_ap, eTup_ap, eLs_ap, eOfL_ap, eIxO_ap, eP0_ap, ePs_ap, eSl_ap, iW_ap, iR1_ap, iR2_ap, iZp_ap, gN_ap, gNilD_ap, gConsD_ap, gTupD_ap, cYes_ap, sNil_ap, sSeq_ap, sIf_ap, sRet_ap, sRetN_ap, sSet_ap, sSetO_ap, sExp_ap, sBrk_ap, sCont_ap, sApp_ap, ePop_ap, sPut_ap, eCall_ap, eCallO_ap, eLenO_ap, sDk0_ap, sDput_ap, eSrtDk_ap, eDget_ap, eDin_ap, eRevO_ap, eLenS_ap, eIxS_ap, iSq_ap, nSeq_ap, nRet_ap, sDraws_ap, sAug_ap, sPar_ap, unE, reE, keepF, dIs, dNot, dNeg, dIsT, isTy, tyOf, rets, retsO, List.getElem?_cons_zero, List.getElem?_cons_succ, List.set_cons_zero, List.set_cons_succ, List.length_cons, List.length_nil, List.length_map, List.length_set, Nat.reduceAdd, Nat.reduceSub, Nat.reduceLT, Nat.reduceLeDiff, dAdd_i, dAdd_l, dAdd_t, dSub_i, dMul_i, dDiv_i, dModI_i, dLt_i, dLe_i, dGt_i, dGe_i, dEq_i, dNe_i, dEq_b, dNe_b, if_true, if_false, decide_true, decide_false, Bool.false_eq_true, Bool.not_true, Bool.not_false, and_true, true_and, and_self, or_true, true_or, reduceIte, Int.reduceNeg, Int.reducePow, Int.reduceLT, Int.reduceLE, Int.reduceGT, Int.reduceAdd, Int.reduceMul, Int.reduceSub, Int.reduceToNat, Nat.reducePow, Nat.reduceMul, Nat.reduceEqDiff, Int.reduceBEq, or_self, and_false, false_and, false_or, or_false, Bool.and_true, Bool.true_and, Bool.and_false, Bool.false_and, Bool.and_self, List.length_append, dAbs_i, Int.cast_ofNat_Int, beq_self_eq_true, String.reduceBEq, zip_l, zip_t, walk_l, walk_t, items_l, items_t, dLen_l, dLen_t, dTuple_l, dTuple_t, dList_l, dList_t, dInt_i, dSl_l, dSl_t, dIsNot_b, Bool.true_or, Bool.or_true, Bool.or_false, Bool.false_or, t1, t2, pv, t3, t4, pb, t5, dInt_b, pm, t6, z2, z3]
  generalize l.dropLast.dropLast.dropLast.dropLast.dropLast.dropLast = l6
  generalize hM : 2 + tk l.dropLast.dropLast.dropLast.dropLast.dropLast m0 = M
  have hsw := seg_weights (.sq (ns.map .int)) (.fz (.list [.int (2 + tk l 10), .int v, .int (2 + tk l.dropLast.dropLast 96)])) (.fz (.int b)) (.fz (.int M)) .un .un .un .un .un .un .un .un .un .un .un .un .un .un .un .un (rng 0 M) l6
  obtain ⟨ws, l7, w1, w2, w3⟩ := hsw
  rw [rng_len] at w1
  have hMw : M = (ws.length : Int) := by omega
  have h2 : 2 ≤ ws.length := by omega
  have h10 : ws.length ≤ 10 := by omega
  subst hMw
  have hs : small62 (ws.length : Int) = true := small_10 h10
  have hz : ws.length ≤ sizeLine := line_small (Nat.le_trans h10 (by decide))
  have tsch : (PyData.tuple [.tuple (ws.map .int), .int b] : D) = sch ws b := rfl
  have hsc := scheme_good h2 h10 w2 b2 b97
  simp only [cC_ap, eC_ap, eV_ap, eB_ap, eU_ap, eAnd_ap, eOr_ap, tE_ap, tAnd_ap, tOr_ap, tNot_ap, eIf_ap, eCh_ap, eA0_ap, eAc_ap, eAs_ap, eTup_ap, eLs_ap, eOfL_ap, eIxO_ap, eP0_ap, ePs_ap, eSl_ap, iW_ap, iR1_ap, iR2_ap, iZp_ap, gN_ap, gNilD_ap, gConsD_ap, gTupD_ap, cYes_ap, sNil_ap, sSeq_ap, sIf_ap, sRet_ap, sRetN_ap, sSet_ap, sSetO_ap, sExp_ap, sBrk_ap, sCont_ap, sApp_ap, ePop_ap, sPut_ap, eCall_ap, eCallO_ap, eLenO_ap, sDk0_ap, sDput_ap, eSrtDk_ap, eDget_ap, eDin_ap, eRevO_ap, eLenS_ap, eIxS_ap, iSq_ap, nSeq_ap, nRet_ap, sDraws_ap, sAug_ap, sPar_ap, unE, reE, keepF, dIs, dNot, dNeg, dIsT, isTy, tyOf, rets, retsO, List.getElem?_cons_zero, List.getElem?_cons_succ, List.set_cons_zero, List.set_cons_succ, List.length_cons, List.length_nil, List.length_map, List.length_set, Nat.reduceAdd, Nat.reduceSub, Nat.reduceLT, Nat.reduceLeDiff, dAdd_i, dAdd_l, dAdd_t, dSub_i, dMul_i, dDiv_i, dModI_i, dLt_i, dLe_i, dGt_i, dGe_i, dEq_i, dNe_i, dEq_b, dNe_b, if_true, if_false, decide_true, decide_false, Bool.false_eq_true, Bool.not_true, Bool.not_false, and_true, true_and, and_self, or_true, true_or, reduceIte, Int.reduceNeg, Int.reducePow, Int.reduceLT, Int.reduceLE, Int.reduceGT, Int.reduceAdd, Int.reduceMul, Int.reduceSub, Int.reduceToNat, Nat.reducePow, Nat.reduceMul, Nat.reduceEqDiff, Int.reduceBEq, or_self, and_false, false_and, false_or, or_false, Bool.and_true, Bool.true_and, Bool.and_false, Bool.false_and, Bool.and_self, List.length_append, dAbs_i, Int.cast_ofNat_Int, beq_self_eq_true, String.reduceBEq, zip_l, zip_t, walk_l, walk_t, items_l, items_t, dLen_l, dLen_t, dTuple_l, dTuple_t, dList_l, dList_t, dInt_i, dSl_l, dSl_t, dIsNot_b, Bool.true_or, Bool.or_true, Bool.or_false, Bool.false_or, hs, w3, hz, z2, tsch, sch0, hsc]
  exact main_ok _ _ ws b (by omega) (by omega) h2 h10 l7 _ _ _ _ _ _ _ _
end K92

namespace K92
open PySem PySem.Spec PyProof.Rows L2 GxR DL
/-! ### the end, printed by gen.py -/
theorem ok_all {P : Program} {w : World} {K : PySem.W.Frag} {mg : Str → Option Value} {base : Heap} {a : Ad} (T : Txt K mg base a) : FnOk P w K mg base CX0 4 a.f_law a.d_law ["script"] (spLaw K (Tb a) P63) := by
  have G_is_number := fn_D (P := P) (w := w) T.F_is_number sc_is_number rfl (dr_is_number T) sem_number
  have G_is_scheme := fn_D (P := P) (w := w) T.F_is_scheme sc_is_scheme rfl (dr_is_scheme T G_is_number) sem_scheme
  have G_is_bar_number := fn_D (P := P) (w := w) T.F_is_bar_number sc_is_bar_number rfl (dr_is_bar_number T G_is_number) sem_bar
  have G_is_right := fn_D (P := P) (w := w) T.F_is_right sc_is_right rfl (dr_is_right T) sem_is_right
  have G_shows_wrong := fn_D (P := P) (w := w) T.F_shows_wrong sc_shows_wrong rfl (dr_shows_wrong T) sem_wrong
  have G_rests_of := fn_D (P := P) (w := w) T.F_rests_of sc_rests_of rfl (dr_rests_of T) sem_rests
  have G_shows_exchange := fn_D (P := P) (w := w) T.F_shows_exchange sc_shows_exchange rfl (dr_shows_exchange T G_rests_of) sem_exchange
  have G_mark_for := fn_D (P := P) (w := w) T.F_mark_for sc_mark_for rfl (dr_mark_for T G_is_right) sem_mark
  have G__law_draws := fn_SN (P := P) (w := w) T.F__law_draws sc__law_draws (dr__law_draws T) sem_draws
  have G__law_take := fn_O (P := P) (w := w) T.F__law_take sc__law_take rfl (dr__law_take T) sem_take
  have S0 : FnOk P w K mg base CX0 0 a.f__law_same a.d__law_same ["actual", "due"] (spD K (Tb a) 2 (mfSame 0)) := fn_none same_zero
  have S1 : FnOk P w K mg base CX0 1 a.f__law_same a.d__law_same ["actual", "due"] (spD K (Tb a) 2 (mfSame 1)) := fn_D (P := P) (w := w) T.F__law_same sc__law_same rfl (dr__law_same T S0) (sem_same 0)
  have S2 : FnOk P w K mg base CX0 2 a.f__law_same a.d__law_same ["actual", "due"] (spD K (Tb a) 2 (mfSame 2)) := fn_D (P := P) (w := w) T.F__law_same sc__law_same rfl (dr__law_same T S1) (sem_same 1)
  have G__law_same := S2
  have G__law_right := fn_D (P := P) (w := w) T.F__law_right sc__law_right rfl (dr__law_right T) sem_law_right
  have G__law_numbers := fn_D (P := P) (w := w) T.F__law_numbers sc__law_numbers rfl (dr__law_numbers T G__law_right) sem_numbers
  have G__law_changed := fn_D (P := P) (w := w) T.F__law_changed sc__law_changed rfl (dr__law_changed T) sem_changed
  exact fn_law (P := P) (w := w) T.F_law sc_law (dr_law T G__law_draws G__law_take G_is_scheme G__law_right G_is_bar_number G__law_same G_mark_for G_is_right G_shows_wrong G_shows_exchange G__law_numbers G__law_changed) sem_law
theorem all_mk {l : PySem.W.OpenLaw} {q : Program} {w : World} {K : PySem.W.Frag} {h : Heap} {mg : Str → Option Value} {fa : Addr} (X : K.In h) (G : h.Ns mainGlobals mg) (hfa : mg "law" = some (.ref fa)) (TB : Tabs q mg h) (r_is_scheme : ((recsOf q).any fun e => e.name == "is_scheme") = true) (r_is_bar_number : ((recsOf q).any fun e => e.name == "is_bar_number") = true) (r_is_right : ((recsOf q).any fun e => e.name == "is_right") = true) (r_shows_wrong : ((recsOf q).any fun e => e.name == "shows_wrong") = true)
    {f_is_number c_is_number : Addr} {oc_is_number kV_is_number dc_is_number pm_is_number ct_is_number : Value} {od_is_number an_is_number : Option Addr} {sl_is_number : Array (Option Value)}
    {f_is_scheme c_is_scheme : Addr} {oc_is_scheme kV_is_scheme dc_is_scheme pm_is_scheme ct_is_scheme : Value} {od_is_scheme an_is_scheme : Option Addr} {sl_is_scheme : Array (Option Value)}
    {f_is_bar_number c_is_bar_number : Addr} {oc_is_bar_number kV_is_bar_number dc_is_bar_number pm_is_bar_number ct_is_bar_number : Value} {od_is_bar_number an_is_bar_number : Option Addr} {sl_is_bar_number : Array (Option Value)}
    {f_is_right c_is_right : Addr} {oc_is_right kV_is_right dc_is_right pm_is_right ct_is_right : Value} {od_is_right an_is_right : Option Addr} {sl_is_right : Array (Option Value)}
    {f_shows_wrong c_shows_wrong : Addr} {oc_shows_wrong kV_shows_wrong dc_shows_wrong pm_shows_wrong ct_shows_wrong : Value} {od_shows_wrong an_shows_wrong : Option Addr} {sl_shows_wrong : Array (Option Value)}
    {f_rests_of c_rests_of : Addr} {oc_rests_of kV_rests_of dc_rests_of pm_rests_of ct_rests_of : Value} {od_rests_of an_rests_of : Option Addr} {sl_rests_of : Array (Option Value)}
    {f_shows_exchange c_shows_exchange : Addr} {oc_shows_exchange kV_shows_exchange dc_shows_exchange pm_shows_exchange ct_shows_exchange : Value} {od_shows_exchange an_shows_exchange : Option Addr} {sl_shows_exchange : Array (Option Value)}
    {f_mark_for c_mark_for : Addr} {oc_mark_for kV_mark_for dc_mark_for pm_mark_for ct_mark_for : Value} {od_mark_for an_mark_for : Option Addr} {sl_mark_for : Array (Option Value)}
    {f__law_draws c__law_draws : Addr} {oc__law_draws kV__law_draws dc__law_draws pm__law_draws ct__law_draws : Value} {od__law_draws an__law_draws : Option Addr} {sl__law_draws : Array (Option Value)}
    {f__law_take c__law_take : Addr} {oc__law_take kV__law_take dc__law_take pm__law_take ct__law_take : Value} {od__law_take an__law_take : Option Addr} {sl__law_take : Array (Option Value)}
    {f__law_same c__law_same : Addr} {oc__law_same kV__law_same dc__law_same pm__law_same ct__law_same : Value} {od__law_same an__law_same : Option Addr} {sl__law_same : Array (Option Value)}
    {f__law_right c__law_right : Addr} {oc__law_right kV__law_right dc__law_right pm__law_right ct__law_right : Value} {od__law_right an__law_right : Option Addr} {sl__law_right : Array (Option Value)}
    {f__law_numbers c__law_numbers : Addr} {oc__law_numbers kV__law_numbers dc__law_numbers pm__law_numbers ct__law_numbers : Value} {od__law_numbers an__law_numbers : Option Addr} {sl__law_numbers : Array (Option Value)}
    {f__law_changed c__law_changed : Addr} {oc__law_changed kV__law_changed dc__law_changed pm__law_changed ct__law_changed : Value} {od__law_changed an__law_changed : Option Addr} {sl__law_changed : Array (Option Value)}
    {f_law c_law : Addr} {oc_law kV_law dc_law pm_law ct_law : Value} {od_law an_law : Option Addr} {sl_law : Array (Option Value)}
    {p_is_scheme : Addr} {e_is_scheme : Value} {dd_is_scheme : Option Addr} {vs_is_scheme : Array Value} {sm_is_scheme : Array (Option Value)}
    {p_is_bar_number : Addr} {e_is_bar_number : Value} {dd_is_bar_number : Option Addr} {vs_is_bar_number : Array Value} {sm_is_bar_number : Array (Option Value)}
    {p_is_right : Addr} {e_is_right : Value} {dd_is_right : Option Addr} {vs_is_right : Array Value} {sm_is_right : Array (Option Value)}
    {p_shows_wrong : Addr} {e_shows_wrong : Value} {dd_shows_wrong : Option Addr} {vs_shows_wrong : Array Value} {sm_shows_wrong : Array (Option Value)}
    {w_MOST_BASE : Tok}
    (a_is_number : PySem.W.nsIn K mainGlobals "is_number" = some (some (.ref f_is_number)))
    (l_is_number : K.lookup f_is_number = some ⟨oc_is_number, od_is_number, .func (PySem.W.fnOf "is_number" "is_number" (defArgs st_is_number) (defBody st_is_number) (defScope st_is_number) .none kV_is_number dc_is_number pm_is_number an_is_number (.ref c_is_number) ct_is_number), sl_is_number⟩)
    (q_is_number : PySem.W.codeIn K (.ref c_is_number) "is_number" = true)
    (k_is_number : PySem.W.keepIn K (.ref f_is_number) = true)
    (a_is_scheme : PySem.W.nsIn K mainGlobals "is_scheme" = some (some (.ref f_is_scheme)))
    (l_is_scheme : K.lookup f_is_scheme = some ⟨oc_is_scheme, od_is_scheme, .func (PySem.W.fnOf "is_scheme" "is_scheme" (defArgs st_is_scheme) (defBody st_is_scheme) (defScope st_is_scheme) .none kV_is_scheme dc_is_scheme pm_is_scheme an_is_scheme (.ref c_is_scheme) ct_is_scheme), sl_is_scheme⟩)
    (q_is_scheme : PySem.W.codeIn K (.ref c_is_scheme) "is_scheme" = true)
    (k_is_scheme : PySem.W.keepIn K (.ref f_is_scheme) = true)
    (a_is_bar_number : PySem.W.nsIn K mainGlobals "is_bar_number" = some (some (.ref f_is_bar_number)))
    (l_is_bar_number : K.lookup f_is_bar_number = some ⟨oc_is_bar_number, od_is_bar_number, .func (PySem.W.fnOf "is_bar_number" "is_bar_number" (defArgs st_is_bar_number) (defBody st_is_bar_number) (defScope st_is_bar_number) .none kV_is_bar_number dc_is_bar_number pm_is_bar_number an_is_bar_number (.ref c_is_bar_number) ct_is_bar_number), sl_is_bar_number⟩)
    (q_is_bar_number : PySem.W.codeIn K (.ref c_is_bar_number) "is_bar_number" = true)
    (k_is_bar_number : PySem.W.keepIn K (.ref f_is_bar_number) = true)
    (a_is_right : PySem.W.nsIn K mainGlobals "is_right" = some (some (.ref f_is_right)))
    (l_is_right : K.lookup f_is_right = some ⟨oc_is_right, od_is_right, .func (PySem.W.fnOf "is_right" "is_right" (defArgs st_is_right) (defBody st_is_right) (defScope st_is_right) .none kV_is_right dc_is_right pm_is_right an_is_right (.ref c_is_right) ct_is_right), sl_is_right⟩)
    (q_is_right : PySem.W.codeIn K (.ref c_is_right) "is_right" = true)
    (k_is_right : PySem.W.keepIn K (.ref f_is_right) = true)
    (a_shows_wrong : PySem.W.nsIn K mainGlobals "shows_wrong" = some (some (.ref f_shows_wrong)))
    (l_shows_wrong : K.lookup f_shows_wrong = some ⟨oc_shows_wrong, od_shows_wrong, .func (PySem.W.fnOf "shows_wrong" "shows_wrong" (defArgs st_shows_wrong) (defBody st_shows_wrong) (defScope st_shows_wrong) .none kV_shows_wrong dc_shows_wrong pm_shows_wrong an_shows_wrong (.ref c_shows_wrong) ct_shows_wrong), sl_shows_wrong⟩)
    (q_shows_wrong : PySem.W.codeIn K (.ref c_shows_wrong) "shows_wrong" = true)
    (k_shows_wrong : PySem.W.keepIn K (.ref f_shows_wrong) = true)
    (a_rests_of : PySem.W.nsIn K mainGlobals "rests_of" = some (some (.ref f_rests_of)))
    (l_rests_of : K.lookup f_rests_of = some ⟨oc_rests_of, od_rests_of, .func (PySem.W.fnOf "rests_of" "rests_of" (defArgs st_rests_of) (defBody st_rests_of) (defScope st_rests_of) .none kV_rests_of dc_rests_of pm_rests_of an_rests_of (.ref c_rests_of) ct_rests_of), sl_rests_of⟩)
    (q_rests_of : PySem.W.codeIn K (.ref c_rests_of) "rests_of" = true)
    (k_rests_of : PySem.W.keepIn K (.ref f_rests_of) = true)
    (a_shows_exchange : PySem.W.nsIn K mainGlobals "shows_exchange" = some (some (.ref f_shows_exchange)))
    (l_shows_exchange : K.lookup f_shows_exchange = some ⟨oc_shows_exchange, od_shows_exchange, .func (PySem.W.fnOf "shows_exchange" "shows_exchange" (defArgs st_shows_exchange) (defBody st_shows_exchange) (defScope st_shows_exchange) .none kV_shows_exchange dc_shows_exchange pm_shows_exchange an_shows_exchange (.ref c_shows_exchange) ct_shows_exchange), sl_shows_exchange⟩)
    (q_shows_exchange : PySem.W.codeIn K (.ref c_shows_exchange) "shows_exchange" = true)
    (k_shows_exchange : PySem.W.keepIn K (.ref f_shows_exchange) = true)
    (a_mark_for : PySem.W.nsIn K mainGlobals "mark_for" = some (some (.ref f_mark_for)))
    (l_mark_for : K.lookup f_mark_for = some ⟨oc_mark_for, od_mark_for, .func (PySem.W.fnOf "mark_for" "mark_for" (defArgs st_mark_for) (defBody st_mark_for) (defScope st_mark_for) .none kV_mark_for dc_mark_for pm_mark_for an_mark_for (.ref c_mark_for) ct_mark_for), sl_mark_for⟩)
    (q_mark_for : PySem.W.codeIn K (.ref c_mark_for) "mark_for" = true)
    (k_mark_for : PySem.W.keepIn K (.ref f_mark_for) = true)
    (a__law_draws : PySem.W.nsIn K mainGlobals "_law_draws" = some (some (.ref f__law_draws)))
    (l__law_draws : K.lookup f__law_draws = some ⟨oc__law_draws, od__law_draws, .func (PySem.W.fnOf "_law_draws" "_law_draws" (defArgs st__law_draws) (defBody st__law_draws) (defScope st__law_draws) .none kV__law_draws dc__law_draws pm__law_draws an__law_draws (.ref c__law_draws) ct__law_draws), sl__law_draws⟩)
    (q__law_draws : PySem.W.codeIn K (.ref c__law_draws) "_law_draws" = true)
    (k__law_draws : PySem.W.keepIn K (.ref f__law_draws) = true)
    (a__law_take : PySem.W.nsIn K mainGlobals "_law_take" = some (some (.ref f__law_take)))
    (l__law_take : K.lookup f__law_take = some ⟨oc__law_take, od__law_take, .func (PySem.W.fnOf "_law_take" "_law_take" (defArgs st__law_take) (defBody st__law_take) (defScope st__law_take) .none kV__law_take dc__law_take pm__law_take an__law_take (.ref c__law_take) ct__law_take), sl__law_take⟩)
    (q__law_take : PySem.W.codeIn K (.ref c__law_take) "_law_take" = true)
    (k__law_take : PySem.W.keepIn K (.ref f__law_take) = true)
    (a__law_same : PySem.W.nsIn K mainGlobals "_law_same" = some (some (.ref f__law_same)))
    (l__law_same : K.lookup f__law_same = some ⟨oc__law_same, od__law_same, .func (PySem.W.fnOf "_law_same" "_law_same" (defArgs st__law_same) (defBody st__law_same) (defScope st__law_same) .none kV__law_same dc__law_same pm__law_same an__law_same (.ref c__law_same) ct__law_same), sl__law_same⟩)
    (q__law_same : PySem.W.codeIn K (.ref c__law_same) "_law_same" = true)
    (k__law_same : PySem.W.keepIn K (.ref f__law_same) = true)
    (a__law_right : PySem.W.nsIn K mainGlobals "_law_right" = some (some (.ref f__law_right)))
    (l__law_right : K.lookup f__law_right = some ⟨oc__law_right, od__law_right, .func (PySem.W.fnOf "_law_right" "_law_right" (defArgs st__law_right) (defBody st__law_right) (defScope st__law_right) .none kV__law_right dc__law_right pm__law_right an__law_right (.ref c__law_right) ct__law_right), sl__law_right⟩)
    (q__law_right : PySem.W.codeIn K (.ref c__law_right) "_law_right" = true)
    (k__law_right : PySem.W.keepIn K (.ref f__law_right) = true)
    (a__law_numbers : PySem.W.nsIn K mainGlobals "_law_numbers" = some (some (.ref f__law_numbers)))
    (l__law_numbers : K.lookup f__law_numbers = some ⟨oc__law_numbers, od__law_numbers, .func (PySem.W.fnOf "_law_numbers" "_law_numbers" (defArgs st__law_numbers) (defBody st__law_numbers) (defScope st__law_numbers) .none kV__law_numbers dc__law_numbers pm__law_numbers an__law_numbers (.ref c__law_numbers) ct__law_numbers), sl__law_numbers⟩)
    (q__law_numbers : PySem.W.codeIn K (.ref c__law_numbers) "_law_numbers" = true)
    (k__law_numbers : PySem.W.keepIn K (.ref f__law_numbers) = true)
    (a__law_changed : PySem.W.nsIn K mainGlobals "_law_changed" = some (some (.ref f__law_changed)))
    (l__law_changed : K.lookup f__law_changed = some ⟨oc__law_changed, od__law_changed, .func (PySem.W.fnOf "_law_changed" "_law_changed" (defArgs st__law_changed) (defBody st__law_changed) (defScope st__law_changed) .none kV__law_changed dc__law_changed pm__law_changed an__law_changed (.ref c__law_changed) ct__law_changed), sl__law_changed⟩)
    (q__law_changed : PySem.W.codeIn K (.ref c__law_changed) "_law_changed" = true)
    (k__law_changed : PySem.W.keepIn K (.ref f__law_changed) = true)
    (a_law : PySem.W.nsIn K mainGlobals "law" = some (some (.ref f_law)))
    (l_law : K.lookup f_law = some ⟨oc_law, od_law, .func (PySem.W.fnOf "law" "law" (defArgs st_law) (defBody st_law) (defScope st_law) .none kV_law dc_law pm_law an_law (.ref c_law) ct_law), sl_law⟩)
    (q_law : PySem.W.codeIn K (.ref c_law) "law" = true)
    (k_law : PySem.W.keepIn K (.ref f_law) = true)
    (t_is_scheme : K.lookup c_is_scheme = some ⟨e_is_scheme, dd_is_scheme, .fields vs_is_scheme, sm_is_scheme⟩)
    (v_is_scheme : vs_is_scheme[11]? = some (.ref p_is_scheme))
    (n_is_scheme : K.lookup p_is_scheme = none)
    (t_is_bar_number : K.lookup c_is_bar_number = some ⟨e_is_bar_number, dd_is_bar_number, .fields vs_is_bar_number, sm_is_bar_number⟩)
    (v_is_bar_number : vs_is_bar_number[11]? = some (.ref p_is_bar_number))
    (n_is_bar_number : K.lookup p_is_bar_number = none)
    (t_is_right : K.lookup c_is_right = some ⟨e_is_right, dd_is_right, .fields vs_is_right, sm_is_right⟩)
    (v_is_right : vs_is_right[11]? = some (.ref p_is_right))
    (n_is_right : K.lookup p_is_right = none)
    (t_shows_wrong : K.lookup c_shows_wrong = some ⟨e_shows_wrong, dd_shows_wrong, .fields vs_shows_wrong, sm_shows_wrong⟩)
    (v_shows_wrong : vs_shows_wrong[11]? = some (.ref p_shows_wrong))
    (n_shows_wrong : K.lookup p_shows_wrong = none)
    (z_abs : PySem.W.nsIn K mainGlobals "abs" = some none)
    (z_all : PySem.W.nsIn K mainGlobals "all" = some none)
    (z_bool : PySem.W.nsIn K mainGlobals "bool" = some none)
    (z_int : PySem.W.nsIn K mainGlobals "int" = some none)
    (z_isinstance : PySem.W.nsIn K mainGlobals "isinstance" = some none)
    (z_len : PySem.W.nsIn K mainGlobals "len" = some none)
    (z_list : PySem.W.nsIn K mainGlobals "list" = some none)
    (z_range : PySem.W.nsIn K mainGlobals "range" = some none)
    (z_reversed : PySem.W.nsIn K mainGlobals "reversed" = some none)
    (z_sorted : PySem.W.nsIn K mainGlobals "sorted" = some none)
    (z_str : PySem.W.nsIn K mainGlobals "str" = some none)
    (z_sum : PySem.W.nsIn K mainGlobals "sum" = some none)
    (z_tuple : PySem.W.nsIn K mainGlobals "tuple" = some none)
    (z_zip : PySem.W.nsIn K mainGlobals "zip" = some none)
    (g_MOST_BASE : PySem.W.nsIn K mainGlobals "MOST_BASE" = some (some (.int 97 w_MOST_BASE)))
    : LamX.LawAtS l w K CX0 4 63 "script" mg fa h := by
  have m_is_number := PySem.W.mg_of X G a_is_number
  have m_is_scheme := PySem.W.mg_of X G a_is_scheme
  have m_is_bar_number := PySem.W.mg_of X G a_is_bar_number
  have m_is_right := PySem.W.mg_of X G a_is_right
  have m_shows_wrong := PySem.W.mg_of X G a_shows_wrong
  have m_rests_of := PySem.W.mg_of X G a_rests_of
  have m_shows_exchange := PySem.W.mg_of X G a_shows_exchange
  have m_mark_for := PySem.W.mg_of X G a_mark_for
  have m__law_draws := PySem.W.mg_of X G a__law_draws
  have m__law_take := PySem.W.mg_of X G a__law_take
  have m__law_same := PySem.W.mg_of X G a__law_same
  have m__law_right := PySem.W.mg_of X G a__law_right
  have m__law_numbers := PySem.W.mg_of X G a__law_numbers
  have m__law_changed := PySem.W.mg_of X G a__law_changed
  have m_law := PySem.W.mg_of X G a_law
  have e : f_law = fa := by
    have z := hfa.symm.trans m_law
    cases z
    rfl
  subst e
  have F_is_number : FunG K "is_number" "is_number" st_is_number f_is_number _ c_is_number := ⟨⟨_, _, _, _, _, _, _, _, rfl, l_is_number, q_is_number⟩, k_is_number⟩
  have b_is_number := F_is_number.fun.binds (ps := ["value", "least", "most"]) fun _ _ _ _ _ _ us hl => match us, hl with | [_, _, _], _ => rfl
  have F_is_scheme : FunG K "is_scheme" "is_scheme" st_is_scheme f_is_scheme _ c_is_scheme := ⟨⟨_, _, _, _, _, _, _, _, rfl, l_is_scheme, q_is_scheme⟩, k_is_scheme⟩
  have b_is_scheme := F_is_scheme.fun.binds (ps := ["value"]) fun _ _ _ _ _ _ us hl => match us, hl with | [_], _ => rfl
  have F_is_bar_number : FunG K "is_bar_number" "is_bar_number" st_is_bar_number f_is_bar_number _ c_is_bar_number := ⟨⟨_, _, _, _, _, _, _, _, rfl, l_is_bar_number, q_is_bar_number⟩, k_is_bar_number⟩
  have b_is_bar_number := F_is_bar_number.fun.binds (ps := ["scheme", "value"]) fun _ _ _ _ _ _ us hl => match us, hl with | [_, _], _ => rfl
  have F_is_right : FunG K "is_right" "is_right" st_is_right f_is_right _ c_is_right := ⟨⟨_, _, _, _, _, _, _, _, rfl, l_is_right, q_is_right⟩, k_is_right⟩
  have b_is_right := F_is_right.fun.binds (ps := ["scheme", "number"]) fun _ _ _ _ _ _ us hl => match us, hl with | [_, _], _ => rfl
  have F_shows_wrong : FunG K "shows_wrong" "shows_wrong" st_shows_wrong f_shows_wrong _ c_shows_wrong := ⟨⟨_, _, _, _, _, _, _, _, rfl, l_shows_wrong, q_shows_wrong⟩, k_shows_wrong⟩
  have b_shows_wrong := F_shows_wrong.fun.binds (ps := ["scheme", "place"]) fun _ _ _ _ _ _ us hl => match us, hl with | [_, _], _ => rfl
  have F_rests_of : FunG K "rests_of" "rests_of" st_rests_of f_rests_of _ c_rests_of := ⟨⟨_, _, _, _, _, _, _, _, rfl, l_rests_of, q_rests_of⟩, k_rests_of⟩
  have b_rests_of := F_rests_of.fun.binds (ps := ["scheme", "weights"]) fun _ _ _ _ _ _ us hl => match us, hl with | [_, _], _ => rfl
  have F_shows_exchange : FunG K "shows_exchange" "shows_exchange" st_shows_exchange f_shows_exchange _ c_shows_exchange := ⟨⟨_, _, _, _, _, _, _, _, rfl, l_shows_exchange, q_shows_exchange⟩, k_shows_exchange⟩
  have b_shows_exchange := F_shows_exchange.fun.binds (ps := ["scheme", "place"]) fun _ _ _ _ _ _ us hl => match us, hl with | [_, _], _ => rfl
  have F_mark_for : FunG K "mark_for" "mark_for" st_mark_for f_mark_for _ c_mark_for := ⟨⟨_, _, _, _, _, _, _, _, rfl, l_mark_for, q_mark_for⟩, k_mark_for⟩
  have b_mark_for := F_mark_for.fun.binds (ps := ["scheme", "items"]) fun _ _ _ _ _ _ us hl => match us, hl with | [_, _], _ => rfl
  have F__law_draws : FunG K "_law_draws" "_law_draws" st__law_draws f__law_draws _ c__law_draws := ⟨⟨_, _, _, _, _, _, _, _, rfl, l__law_draws, q__law_draws⟩, k__law_draws⟩
  have b__law_draws := F__law_draws.fun.binds (ps := ["script"]) fun _ _ _ _ _ _ us hl => match us, hl with | [_], _ => rfl
  have F__law_take : FunG K "_law_take" "_law_take" st__law_take f__law_take _ c__law_take := ⟨⟨_, _, _, _, _, _, _, _, rfl, l__law_take, q__law_take⟩, k__law_take⟩
  have b__law_take := F__law_take.fun.binds (ps := ["draws", "bound"]) fun _ _ _ _ _ _ us hl => match us, hl with | [_, _], _ => rfl
  have F__law_same : FunG K "_law_same" "_law_same" st__law_same f__law_same _ c__law_same := ⟨⟨_, _, _, _, _, _, _, _, rfl, l__law_same, q__law_same⟩, k__law_same⟩
  have b__law_same := F__law_same.fun.binds (ps := ["actual", "due"]) fun _ _ _ _ _ _ us hl => match us, hl with | [_, _], _ => rfl
  have F__law_right : FunG K "_law_right" "_law_right" st__law_right f__law_right _ c__law_right := ⟨⟨_, _, _, _, _, _, _, _, rfl, l__law_right, q__law_right⟩, k__law_right⟩
  have b__law_right := F__law_right.fun.binds (ps := ["scheme", "number"]) fun _ _ _ _ _ _ us hl => match us, hl with | [_, _], _ => rfl
  have F__law_numbers : FunG K "_law_numbers" "_law_numbers" st__law_numbers f__law_numbers _ c__law_numbers := ⟨⟨_, _, _, _, _, _, _, _, rfl, l__law_numbers, q__law_numbers⟩, k__law_numbers⟩
  have b__law_numbers := F__law_numbers.fun.binds (ps := ["scheme"]) fun _ _ _ _ _ _ us hl => match us, hl with | [_], _ => rfl
  have F__law_changed : FunG K "_law_changed" "_law_changed" st__law_changed f__law_changed _ c__law_changed := ⟨⟨_, _, _, _, _, _, _, _, rfl, l__law_changed, q__law_changed⟩, k__law_changed⟩
  have b__law_changed := F__law_changed.fun.binds (ps := ["number", "place", "item"]) fun _ _ _ _ _ _ us hl => match us, hl with | [_, _, _], _ => rfl
  have F_law : FunG K "law" "law" st_law f_law _ c_law := ⟨⟨_, _, _, _, _, _, _, _, rfl, l_law, q_law⟩, k_law⟩
  have b_law := F_law.fun.binds (ps := ["script"]) fun _ _ _ _ _ _ us hl => match us, hl with | [_], _ => rfl
  have h_is_scheme := tab_of TB X r_is_scheme m_is_scheme l_is_scheme rfl t_is_scheme v_is_scheme
  have h_is_bar_number := tab_of TB X r_is_bar_number m_is_bar_number l_is_bar_number rfl t_is_bar_number v_is_bar_number
  have h_is_right := tab_of TB X r_is_right m_is_right l_is_right rfl t_is_right v_is_right
  have h_shows_wrong := tab_of TB X r_shows_wrong m_shows_wrong l_shows_wrong rfl t_shows_wrong v_shows_wrong
  let a : Ad := ⟨f_is_number, c_is_number, PySem.W.fnOf "is_number" "is_number" (defArgs st_is_number) (defBody st_is_number) (defScope st_is_number) .none kV_is_number dc_is_number pm_is_number an_is_number (.ref c_is_number) ct_is_number, f_is_scheme, c_is_scheme, PySem.W.fnOf "is_scheme" "is_scheme" (defArgs st_is_scheme) (defBody st_is_scheme) (defScope st_is_scheme) .none kV_is_scheme dc_is_scheme pm_is_scheme an_is_scheme (.ref c_is_scheme) ct_is_scheme, p_is_scheme, f_is_bar_number, c_is_bar_number, PySem.W.fnOf "is_bar_number" "is_bar_number" (defArgs st_is_bar_number) (defBody st_is_bar_number) (defScope st_is_bar_number) .none kV_is_bar_number dc_is_bar_number pm_is_bar_number an_is_bar_number (.ref c_is_bar_number) ct_is_bar_number, p_is_bar_number, f_is_right, c_is_right, PySem.W.fnOf "is_right" "is_right" (defArgs st_is_right) (defBody st_is_right) (defScope st_is_right) .none kV_is_right dc_is_right pm_is_right an_is_right (.ref c_is_right) ct_is_right, p_is_right, f_shows_wrong, c_shows_wrong, PySem.W.fnOf "shows_wrong" "shows_wrong" (defArgs st_shows_wrong) (defBody st_shows_wrong) (defScope st_shows_wrong) .none kV_shows_wrong dc_shows_wrong pm_shows_wrong an_shows_wrong (.ref c_shows_wrong) ct_shows_wrong, p_shows_wrong, f_rests_of, c_rests_of, PySem.W.fnOf "rests_of" "rests_of" (defArgs st_rests_of) (defBody st_rests_of) (defScope st_rests_of) .none kV_rests_of dc_rests_of pm_rests_of an_rests_of (.ref c_rests_of) ct_rests_of, f_shows_exchange, c_shows_exchange, PySem.W.fnOf "shows_exchange" "shows_exchange" (defArgs st_shows_exchange) (defBody st_shows_exchange) (defScope st_shows_exchange) .none kV_shows_exchange dc_shows_exchange pm_shows_exchange an_shows_exchange (.ref c_shows_exchange) ct_shows_exchange, f_mark_for, c_mark_for, PySem.W.fnOf "mark_for" "mark_for" (defArgs st_mark_for) (defBody st_mark_for) (defScope st_mark_for) .none kV_mark_for dc_mark_for pm_mark_for an_mark_for (.ref c_mark_for) ct_mark_for, f__law_draws, c__law_draws, PySem.W.fnOf "_law_draws" "_law_draws" (defArgs st__law_draws) (defBody st__law_draws) (defScope st__law_draws) .none kV__law_draws dc__law_draws pm__law_draws an__law_draws (.ref c__law_draws) ct__law_draws, f__law_take, c__law_take, PySem.W.fnOf "_law_take" "_law_take" (defArgs st__law_take) (defBody st__law_take) (defScope st__law_take) .none kV__law_take dc__law_take pm__law_take an__law_take (.ref c__law_take) ct__law_take, f__law_same, c__law_same, PySem.W.fnOf "_law_same" "_law_same" (defArgs st__law_same) (defBody st__law_same) (defScope st__law_same) .none kV__law_same dc__law_same pm__law_same an__law_same (.ref c__law_same) ct__law_same, f__law_right, c__law_right, PySem.W.fnOf "_law_right" "_law_right" (defArgs st__law_right) (defBody st__law_right) (defScope st__law_right) .none kV__law_right dc__law_right pm__law_right an__law_right (.ref c__law_right) ct__law_right, f__law_numbers, c__law_numbers, PySem.W.fnOf "_law_numbers" "_law_numbers" (defArgs st__law_numbers) (defBody st__law_numbers) (defScope st__law_numbers) .none kV__law_numbers dc__law_numbers pm__law_numbers an__law_numbers (.ref c__law_numbers) ct__law_numbers, f__law_changed, c__law_changed, PySem.W.fnOf "_law_changed" "_law_changed" (defArgs st__law_changed) (defBody st__law_changed) (defScope st__law_changed) .none kV__law_changed dc__law_changed pm__law_changed an__law_changed (.ref c__law_changed) ct__law_changed, f_law, c_law, PySem.W.fnOf "law" "law" (defArgs st_law) (defBody st_law) (defScope st_law) .none kV_law dc_law pm_law an_law (.ref c_law) ct_law⟩
  refine ⟨_, [(c_is_scheme, p_is_scheme), (c_is_bar_number, p_is_bar_number), (c_is_right, p_is_right), (c_shows_wrong, p_shows_wrong)], spLaw K (Tb a) P63, fun p hp => ?_, fun p hp => ?_, fun p hp => ?_, fun s u => .of_eq rfl, fun H x ns hl _ hH hS => law_start hl (fun P hP => ?_) hS, fun base hb hg hc => ok_all (a := a) ?_⟩
  · simp only [List.mem_cons, List.not_mem_nil, or_false] at hp
    rcases hp with rfl | rfl | rfl | rfl
    · exact h_is_scheme.1
    · exact h_is_bar_number.1
    · exact h_is_right.1
    · exact h_shows_wrong.1
  · simp only [List.mem_cons, List.not_mem_nil, or_false] at hp
    rcases hp with rfl | rfl | rfl | rfl
    · exact n_is_scheme
    · exact n_is_bar_number
    · exact n_is_right
    · exact n_shows_wrong
  · simp only [List.mem_cons, List.not_mem_nil, or_false] at hp
    rcases hp with rfl | rfl | rfl | rfl
    · exact h_is_scheme.2
    · exact h_is_bar_number.2
    · exact h_is_right.2
    · exact h_shows_wrong.2
  · simp only [a, Tb, List.mem_cons, List.not_mem_nil, or_false] at hP
    rcases hP with e | e | e | e
    · rw [e]; exact hH (c_is_scheme, p_is_scheme) (by simp)
    · rw [e]; exact hH (c_is_bar_number, p_is_bar_number) (by simp)
    · rw [e]; exact hH (c_is_right, p_is_right) (by simp)
    · rw [e]; exact hH (c_shows_wrong, p_shows_wrong) (by simp)
  · exact ⟨F_is_number, m_is_number, b_is_number, F_is_scheme, m_is_scheme, b_is_scheme, (tabG (hc (c_is_scheme, p_is_scheme) (by simp))), F_is_bar_number, m_is_bar_number, b_is_bar_number, (tabG (hc (c_is_bar_number, p_is_bar_number) (by simp))), F_is_right, m_is_right, b_is_right, (tabG (hc (c_is_right, p_is_right) (by simp))), F_shows_wrong, m_shows_wrong, b_shows_wrong, (tabG (hc (c_shows_wrong, p_shows_wrong) (by simp))), F_rests_of, m_rests_of, b_rests_of, F_shows_exchange, m_shows_exchange, b_shows_exchange, F_mark_for, m_mark_for, b_mark_for, F__law_draws, m__law_draws, b__law_draws, F__law_take, m__law_take, b__law_take, F__law_same, m__law_same, b__law_same, F__law_right, m__law_right, b__law_right, F__law_numbers, m__law_numbers, b__law_numbers, F__law_changed, m__law_changed, b__law_changed, F_law, m_law, b_law, (PySem.W.mg_none_of X G z_abs), (PySem.W.mg_none_of X G z_all), (PySem.W.mg_none_of X G z_bool), (PySem.W.mg_none_of X G z_int), (PySem.W.mg_none_of X G z_isinstance), (PySem.W.mg_none_of X G z_len), (PySem.W.mg_none_of X G z_list), (PySem.W.mg_none_of X G z_range), (PySem.W.mg_none_of X G z_reversed), (PySem.W.mg_none_of X G z_sorted), (PySem.W.mg_none_of X G z_str), (PySem.W.mg_none_of X G z_sum), (PySem.W.mg_none_of X G z_tuple), (PySem.W.mg_none_of X G z_zip), ⟨_, PySem.W.mg_of X G g_MOST_BASE⟩⟩
end K92
open PySem PySem.W PyProof.Rows
set_option maxRecDepth 100000 in
set_option maxHeartbeats 0 in
theorem PySem.Challenge.cw_coinstruck_k92_whole_check_marks_holds : PySem.Challenge.rw_coinstruck_k92_whole_check_marks.Holds := by
  w_on; o_law; k_head; (case hw => w_witness2)
  k_fill
  refine DL.walk_tabs (l := PySem.Challenge.rw_coinstruck_k92_whole_check_marks) (k := 4) (x := "script") rfl (by decide) rfl ⟨rfl, by decide, by decide⟩ (fun w h Y => PySem.W.kIn_of Y) ?F
  case F =>
    intro w mg fa h KX G hmg TB
    refine' K92.all_mk KX G hmg TB ?r_is_scheme ?r_is_bar_number ?r_is_right ?r_shows_wrong ?a_is_number ?l_is_number ?q_is_number ?k_is_number ?a_is_scheme ?l_is_scheme ?q_is_scheme ?k_is_scheme ?a_is_bar_number ?l_is_bar_number ?q_is_bar_number ?k_is_bar_number ?a_is_right ?l_is_right ?q_is_right ?k_is_right ?a_shows_wrong ?l_shows_wrong ?q_shows_wrong ?k_shows_wrong ?a_rests_of ?l_rests_of ?q_rests_of ?k_rests_of ?a_shows_exchange ?l_shows_exchange ?q_shows_exchange ?k_shows_exchange ?a_mark_for ?l_mark_for ?q_mark_for ?k_mark_for ?a__law_draws ?l__law_draws ?q__law_draws ?k__law_draws ?a__law_take ?l__law_take ?q__law_take ?k__law_take ?a__law_same ?l__law_same ?q__law_same ?k__law_same ?a__law_right ?l__law_right ?q__law_right ?k__law_right ?a__law_numbers ?l__law_numbers ?q__law_numbers ?k__law_numbers ?a__law_changed ?l__law_changed ?q__law_changed ?k__law_changed ?a_law ?l_law ?q_law ?k_law ?t_is_scheme ?v_is_scheme ?n_is_scheme ?t_is_bar_number ?v_is_bar_number ?n_is_bar_number ?t_is_right ?v_is_right ?n_is_right ?t_shows_wrong ?v_shows_wrong ?n_shows_wrong ?z_abs ?z_all ?z_bool ?z_int ?z_isinstance ?z_len ?z_list ?z_range ?z_reversed ?z_sorted ?z_str ?z_sum ?z_tuple ?z_zip ?g_MOST_BASE
    (case r_is_scheme => decide +kernel)
    (case r_is_bar_number => decide +kernel)
    (case r_is_right => decide +kernel)
    (case r_shows_wrong => decide +kernel)
    (case a_is_number => k_is)
    (case l_is_number => k_is)
    (case q_is_number => k_is)
    (case k_is_number => k_is)
    (case a_is_scheme => k_is)
    (case l_is_scheme => k_is)
    (case q_is_scheme => k_is)
    (case k_is_scheme => k_is)
    (case a_is_bar_number => k_is)
    (case l_is_bar_number => k_is)
    (case q_is_bar_number => k_is)
    (case k_is_bar_number => k_is)
    (case a_is_right => k_is)
    (case l_is_right => k_is)
    (case q_is_right => k_is)
    (case k_is_right => k_is)
    (case a_shows_wrong => k_is)
    (case l_shows_wrong => k_is)
    (case q_shows_wrong => k_is)
    (case k_shows_wrong => k_is)
    (case a_rests_of => k_is)
    (case l_rests_of => k_is)
    (case q_rests_of => k_is)
    (case k_rests_of => k_is)
    (case a_shows_exchange => k_is)
    (case l_shows_exchange => k_is)
    (case q_shows_exchange => k_is)
    (case k_shows_exchange => k_is)
    (case a_mark_for => k_is)
    (case l_mark_for => k_is)
    (case q_mark_for => k_is)
    (case k_mark_for => k_is)
    (case a__law_draws => k_is)
    (case l__law_draws => k_is)
    (case q__law_draws => k_is)
    (case k__law_draws => k_is)
    (case a__law_take => k_is)
    (case l__law_take => k_is)
    (case q__law_take => k_is)
    (case k__law_take => k_is)
    (case a__law_same => k_is)
    (case l__law_same => k_is)
    (case q__law_same => k_is)
    (case k__law_same => k_is)
    (case a__law_right => k_is)
    (case l__law_right => k_is)
    (case q__law_right => k_is)
    (case k__law_right => k_is)
    (case a__law_numbers => k_is)
    (case l__law_numbers => k_is)
    (case q__law_numbers => k_is)
    (case k__law_numbers => k_is)
    (case a__law_changed => k_is)
    (case l__law_changed => k_is)
    (case q__law_changed => k_is)
    (case k__law_changed => k_is)
    (case a_law => k_is)
    (case l_law => k_is)
    (case q_law => k_is)
    (case k_law => k_is)
    (case t_is_scheme => k_is)
    (case v_is_scheme => rfl)
    (case n_is_scheme => kernel_rfl)
    (case t_is_bar_number => k_is)
    (case v_is_bar_number => rfl)
    (case n_is_bar_number => kernel_rfl)
    (case t_is_right => k_is)
    (case v_is_right => rfl)
    (case n_is_right => kernel_rfl)
    (case t_shows_wrong => k_is)
    (case v_shows_wrong => rfl)
    (case n_shows_wrong => kernel_rfl)
    (case z_abs => k_is)
    (case z_all => k_is)
    (case z_bool => k_is)
    (case z_int => k_is)
    (case z_isinstance => k_is)
    (case z_len => k_is)
    (case z_list => k_is)
    (case z_range => k_is)
    (case z_reversed => k_is)
    (case z_sorted => k_is)
    (case z_str => k_is)
    (case z_sum => k_is)
    (case z_tuple => k_is)
    (case z_zip => k_is)
    (case g_MOST_BASE => k_is)
