import PyProof.Rows.All
import Wide.All
import OpenK.AllK
import Wide.FinOn
import PyProof.Walks
import PyProof.Cells
import PyProof.DictKinds
import PyProof.Rows.RuleB_mul
import PyProof.Rows.IntRules
import PyProof.Rows.RuleB_floordiv
import PyProof.Rows.RuleB_small
import PyProof.Rows.RuleB_sub
import PyProof.Rows.StrRules
import PyProof.Rows.RuleC_int
import PyProof.Rows.RuleIs2
import PyProof.Rows.SeqMore
import PyProof.SliceMore
import PyProof.SliceStr2
import PyProof.ListIndexNeg
import PyProof.Rows.StrTemp
import PyProof.Rows.SeqSlice
import PyProof.Rows.TupMore
import PyProof.DictRoadsH
import PyProof.Rows.EqMixed
import PyProof.DictTable
import PyProof.CompFree
import PyProof.Rows.TupIter
import PyProof.Rows.TupSub
import PyProof.DefCall
import PyProof.StrLoop
import PyProof.EnumMake
import PyProof.DictIter
import PyProof.RangeIter
import PyProof.WalksMore
import PyProof.CollectIter
import PyProof.StrWalks
import PyProof.Draws
import PyProof.EnumFor
import PyProof.CompMap
import PyProof.Rows.Range3
import PyProof.RangeFor
import PyProof.DictDisplay
import PyProof.SliceSyntax
import PyProof.Rows.RuleU_int
import PyProof.StrBlock
import PyProof.Rows.Chain
import PyProof.Rows.Nodes
import PyProof.ListCopy
import PyProof.StrBlockI
import PyProof.RulesAssignMore
import PyProof.Raises
import PyProof.ForAny
import PyProof.IsiNone
import PyProof.IsiHeapPairs
import PyProof.IsiPairs
import PyProof.NeData
import PyProof.P3Eq
import PyProof.ConsumeWalk
import PyProof.StrCalls2
import PyProof.StrLaws
import PyProof.ListOps
import PyProof.Rows.Tup
import PyProof.Rows.Globals
import Wide.BridgeG
import PyProof.StrLawsJoin
import PySem.Challenge.RW_uf050029_02
set_option Elab.async false
set_option linter.all false

/-! M1 -/
section
set_option autoImplicit false
namespace Mine
open PySem

/-- abstract values -/
inductive PV where
  | none
  | bool (b : Bool)
  | int (i : Int)
  | str (s : Str)
  | tup (l : List PV)
  | ref (a : Addr)
  | g (x : Str)
  | bi (id : String)
  deriving Inhabited

/-- abstract objects -/
inductive AO where
  | list (l : List PV)
  | froz (o : Obj) (l : List PV)
  | dict

noncomputable abbrev Hp := Addr → Option AO

noncomputable def upd (H : Hp) (a : Addr) (o : AO) : Hp := fun b => if b = a then some o else H b
@[simp] theorem upd_self (H : Hp) (a : Addr) (o : AO) : upd H a o a = some o := by simp [upd]
theorem upd_ne (H : Hp) {a b : Addr} (o : AO) (h : b ≠ a) : upd H a o b = H b := by simp [upd, h]
theorem upd_apply (H : Hp) (a b : Addr) (o : AO) : upd H a o b = if b = a then some o else H b := rfl

/-- what stays fixed while the law runs -/
structure Cx where
  prog : Program
  w : World
  G : Str → Option Value
  base : Addr → Obj → Prop
  globs : List Str
  consts : List (Str × PV)

variable (cx : Cx)

noncomputable def Cx.In (h : Heap) : Prop := ∀ b o, cx.base b o → h.get? b = some o

mutual
noncomputable def Rep (h : Heap) (v : Value) : PV → Prop
  | .none => v = .none
  | .bool b => v = .bool b
  | .int i => ∃ t, v = .int i t
  | .str s => ∃ t, v = .str s t
  | .tup l => ∃ a vs n, v = .ref a ∧ h.get? a = some ⟨.type "tuple", none, .seq vs n, #[]⟩ ∧ RepL h vs.toList l
  | .ref a => v = .ref a
  | .g x => cx.G x = some v
  | .bi id => v = .builtin id
noncomputable def RepL (h : Heap) : List Value → List PV → Prop
  | [], [] => True
  | v :: vs, p :: ps => Rep h v p ∧ RepL h vs ps
  | [], _ :: _ => False
  | _ :: _, [] => False
end

variable {cx}

theorem repL_length {h : Heap} : ∀ {vs : List Value} {ps : List PV}, RepL cx h vs ps → vs.length = ps.length
  | [], [], _ => rfl
  | _ :: vs, _ :: ps, h' => by
    have := repL_length (vs := vs) (ps := ps) (by simp only [RepL] at h'; exact h'.2)
    simp [this]
  | [], _ :: _, h' => by simp [RepL] at h'
  | _ :: _, [], h' => by simp [RepL] at h'

mutual
theorem rep_keep {h h' : Heap} (hk : ∀ a vs n, h.get? a = some ⟨.type "tuple", none, .seq vs n, #[]⟩ → h'.get? a = some ⟨.type "tuple", none, .seq vs n, #[]⟩) :
    ∀ (p : PV) {v : Value}, Rep cx h v p → Rep cx h' v p
  | .none, _, r => by simpa only [Rep] using r
  | .bool _, _, r => by simpa only [Rep] using r
  | .int _, _, r => by simpa only [Rep] using r
  | .str _, _, r => by simpa only [Rep] using r
  | .ref _, _, r => by simpa only [Rep] using r
  | .g _, _, r => by simpa only [Rep] using r
  | .bi _, _, r => by simpa only [Rep] using r
  | .tup l, v, r => by
    simp only [Rep] at r ⊢
    obtain ⟨a, vs, n, e, ha, hl⟩ := r
    exact ⟨a, vs, n, e, hk _ _ _ ha, repL_keep hk l hl⟩
theorem repL_keep {h h' : Heap} (hk : ∀ a vs n, h.get? a = some ⟨.type "tuple", none, .seq vs n, #[]⟩ → h'.get? a = some ⟨.type "tuple", none, .seq vs n, #[]⟩) :
    ∀ (l : List PV) {vs : List Value}, RepL cx h vs l → RepL cx h' vs l
  | [], [], _ => by simp [RepL]
  | p :: ps, v :: vs, r => by
    simp only [RepL] at r ⊢
    exact ⟨rep_keep hk p r.1, repL_keep hk ps r.2⟩
  | [], _ :: _, r => by simp [RepL] at r
  | _ :: _, [], r => by simp [RepL] at r
end

theorem repL_get {h : Heap} : ∀ {vs : List Value} {ps : List PV} {i : Nat} {p : PV}, RepL cx h vs ps → ps[i]? = some p → ∃ v, vs[i]? = some v ∧ Rep cx h v p
  | v :: vs, q :: ps, 0, p, r, e => by
    simp only [RepL] at r
    simp only [List.getElem?_cons_zero, Option.some.injEq] at e
    subst e
    exact ⟨v, rfl, r.1⟩
  | v :: vs, q :: ps, i + 1, p, r, e => by
    simp only [RepL] at r
    simp only [List.getElem?_cons_succ] at e ⊢
    exact repL_get r.2 e
  | [], [], _, _, _, e => by simp at e
  | [], _ :: _, _, _, r, _ => by simp [RepL] at r
  | _ :: _, [], _, _, r, _ => by simp [RepL] at r

theorem repL_append {h : Heap} : ∀ {vs vs' : List Value} {ps ps' : List PV}, RepL cx h vs ps → RepL cx h vs' ps' → RepL cx h (vs ++ vs') (ps ++ ps')
  | [], _, [], _, _, r' => r'
  | _ :: _, _, _ :: _, _, r, r' => by
    simp only [RepL, List.cons_append] at r ⊢
    exact ⟨r.1, repL_append r.2 r'⟩
  | [], _, _ :: _, _, r, _ => by simp [RepL] at r
  | _ :: _, _, [], _, r, _ => by simp [RepL] at r

theorem repL_take {h : Heap} : ∀ {vs : List Value} {ps : List PV} (n : Nat), RepL cx h vs ps → RepL cx h (vs.take n) (ps.take n)
  | _, _, 0, _ => by simp [RepL]
  | [], [], _ + 1, _ => by simp [RepL]
  | _ :: _, _ :: _, n + 1, r => by
    simp only [RepL, List.take_succ_cons] at r ⊢
    exact ⟨r.1, repL_take n r.2⟩
  | [], _ :: _, _ + 1, r => by simp [RepL] at r
  | _ :: _, [], _ + 1, r => by simp [RepL] at r

theorem repL_drop {h : Heap} : ∀ {vs : List Value} {ps : List PV} (n : Nat), RepL cx h vs ps → RepL cx h (vs.drop n) (ps.drop n)
  | _, _, 0, r => by simpa using r
  | [], [], _ + 1, _ => by simp [RepL]
  | _ :: _, _ :: _, n + 1, r => by
    simp only [RepL, List.drop_succ_cons] at r ⊢
    exact repL_drop n r.2
  | [], _ :: _, _ + 1, r => by simp [RepL] at r
  | _ :: _, [], _ + 1, r => by simp [RepL] at r

theorem repL_reverse {h : Heap} {vs : List Value} {ps : List PV} (r : RepL cx h vs ps) : RepL cx h vs.reverse ps.reverse := by
  induction vs generalizing ps with
  | nil => cases ps with
    | nil => simp [RepL]
    | cons _ _ => simp [RepL] at r
  | cons v vs ih => cases ps with
    | nil => simp [RepL] at r
    | cons p ps =>
      simp only [RepL] at r
      simp only [List.reverse_cons]
      exact repL_append (ih r.2) (by simp only [RepL]; exact ⟨r.1, trivial⟩)

end Mine
end

/-! M2 -/
section
set_option autoImplicit false
namespace Mine
open PySem

variable (cx : Cx)

/-- how an abstract object lies in the heap -/
noncomputable def HoldsO (h : Heap) (a : Addr) : AO → Prop
  | .list l => ∃ vs n, h.get? a = some ⟨.type "list", none, .seq vs n, #[]⟩ ∧ RepL cx h vs.toList l
  | .froz o l => h.get? a = some o ∧ ∃ vs n, (o.cls = .type "list" ∧ o.data = .seq vs n) ∧ RepL cx h vs.toList l
  | .dict => ∃ o es ep, h.get? a = some o ∧ o.cls = .type "dict" ∧ o.data = .dict es ep

noncomputable def OkH (h : Heap) (H : Hp) : Prop := ∀ a o, H a = some o → HoldsO cx h a o

variable {cx}

noncomputable def NoTup (h : Heap) (X : Addr → Prop) : Prop := ∀ a, X a → ∀ vs n, h.get? a ≠ some ⟨.type "tuple", none, .seq vs n, #[]⟩
noncomputable def dom (H : Hp) : Addr → Prop := fun a => H a ≠ none
noncomputable def KeepBut (X : Addr → Prop) (h h' : Heap) : Prop := ∀ b o, ¬ X b → h.get? b = some o → h'.get? b = some o

theorem KeepBut.refl (X : Addr → Prop) (h : Heap) : KeepBut X h h := fun _ _ _ e => e
theorem KeepBut.mono {X Y : Addr → Prop} {h h' : Heap} (k : KeepBut X h h') (hxy : ∀ a, X a → Y a) : KeepBut Y h h' := fun b o hb e => k b o (fun x => hb (hxy b x)) e

theorem HoldsO.noTup {h : Heap} {a : Addr} {o : AO} (x : HoldsO cx h a o) : ∀ vs n, h.get? a ≠ some ⟨.type "tuple", none, .seq vs n, #[]⟩ := by
  intro vs n e
  cases o <;> simp only [HoldsO] at x
  case list => obtain ⟨vs', n', e', _⟩ := x; rw [e] at e'; injection e' with e'; injection e' with e1; simp at e1
  case froz => obtain ⟨e', vs', n', ⟨e2, _⟩, _⟩ := x; rw [e] at e'; injection e' with e'; subst e'; simp at e2
  case dict => obtain ⟨o, es, ep, e', h1, _⟩ := x; rw [e] at e'; injection e' with e'; subst e'; simp at h1

theorem OkH.noTup {h : Heap} {H : Hp} (x : OkH cx h H) : NoTup h (dom H) := fun a ha vs n e => by
  cases hH : H a with
  | none => exact ha hH
  | some o => exact (x a o hH).noTup vs n e

theorem tup_keep {X : Addr → Prop} {h h' : Heap} (nt : NoTup h X) (k : KeepBut X h h') :
    ∀ a vs n, h.get? a = some ⟨.type "tuple", none, .seq vs n, #[]⟩ → h'.get? a = some ⟨.type "tuple", none, .seq vs n, #[]⟩ :=
  fun a vs n e => k a _ (fun x => nt a x vs n e) e

/-- an object of the abstract heap that itself was not touched stays, whatever else changed -/
theorem HoldsO.keep {X : Addr → Prop} {h h' : Heap} {a : Addr} {o : AO} (x : HoldsO cx h a o) (hk : ∀ a vs n, h.get? a = some ⟨.type "tuple", none, .seq vs n, #[]⟩ → h'.get? a = some ⟨.type "tuple", none, .seq vs n, #[]⟩)
    (ha : ∀ ob, h.get? a = some ob → h'.get? a = some ob) : HoldsO cx h' a o := by
  cases o <;> simp only [HoldsO] at x ⊢
  case list => obtain ⟨vs', n', e', r⟩ := x; exact ⟨vs', n', ha _ e', repL_keep hk _ r⟩
  case froz => obtain ⟨e', vs', n', e2, r⟩ := x; exact ⟨ha _ e', vs', n', e2, repL_keep hk _ r⟩
  case dict => obtain ⟨o, es, ep, e', h1, h2⟩ := x; exact ⟨o, es, ep, ha _ e', h1, h2⟩

/-- the state but for heap and tokens -/
noncomputable def Same (s s' : Shared) : Prop := ∃ h tk, s' = { s with heap := h, toks := tk }
theorem Same.refl (s : Shared) : Same s s := ⟨s.heap, s.toks, rfl⟩
theorem Same.trans {s s' s'' : Shared} (x : Same s s') (y : Same s' s'') : Same s s'' := by
  obtain ⟨h, tk, rfl⟩ := x; obtain ⟨h', tk', rfl⟩ := y; exact ⟨h', tk', rfl⟩
theorem Same.mk (s : Shared) (h : Heap) (tk : Nat) : Same s { s with heap := h, toks := tk } := ⟨h, tk, rfl⟩

/-- what holds at every point: the base stands, and the abstract heap is borne -/
structure Inv (cx : Cx) (H : Hp) (s : Shared) : Prop where
  base : cx.In s.heap
  out : ∀ b o, cx.base b o → H b = none
  ok : OkH cx s.heap H

/-- from (s, H) to (s', H'), all kept but the tracked objects and those of F -/
structure Step (F : Addr → Prop) (s : Shared) (H : Hp) (s' : Shared) (H' : Hp) : Prop where
  same : Same s s'
  keep : KeepBut (fun a => dom H a ∨ F a) s.heap s'.heap
  grow : ∀ a, H' a ≠ none → H a ≠ none ∨ s.heap.get? a = none
  live : ∀ a, s.heap.get? a ≠ none → s'.heap.get? a ≠ none

noncomputable def noF : Addr → Prop := fun _ => False

theorem Inv.dom_some {H : Hp} {s : Shared} (i : Inv cx H s) {a : Addr} (ha : H a ≠ none) : s.heap.get? a ≠ none := by
  cases hH : H a with
  | none => exact absurd hH ha
  | some o =>
    have := i.ok a o hH
    intro e
    cases o <;> simp only [HoldsO] at this <;> simp_all

theorem Inv.dom_lt {H : Hp} {s : Shared} (i : Inv cx H s) {a : Addr} (ha : H a ≠ none) : a < s.heap.objs.size := by
  cases hs : s.heap.get? a with
  | none => exact absurd hs (i.dom_some ha)
  | some o => exact Heap.lt_size hs

theorem Inv.fresh {H : Hp} {s : Shared} (i : Inv cx H s) : H s.heap.objs.size = none := by
  cases hH : H s.heap.objs.size with
  | none => rfl
  | some o => exact absurd (i.dom_lt (a := s.heap.objs.size) (by rw [hH]; simp)) (Nat.lt_irrefl _)

theorem Step.refl {F : Addr → Prop} (s : Shared) (H : Hp) : Step F s H s H :=
  ⟨.refl s, .refl _ _, fun _ h => .inl h, fun _ h => h⟩

theorem Step.trans {F : Addr → Prop} {s s' s'' : Shared} {H H' H'' : Hp} (x : Step F s H s' H') (y : Step F s' H' s'' H'') : Step F s H s'' H'' where
  same := x.same.trans y.same
  keep := fun b o hb e => y.keep b o (fun h => by
    rcases h with h | h
    · rcases x.grow b h with h' | h'
      · exact hb (.inl h')
      · rw [h'] at e; cases e
    · exact hb (.inr h)) (x.keep b o hb e)
  grow := fun a ha => by
    rcases y.grow a ha with h | h
    · exact x.grow a h
    · refine .inr ?_
      cases hs : s.heap.get? a with
      | none => rfl
      | some o => exact absurd h (x.live a (by rw [hs]; simp))
  live := fun a h => y.live a (x.live a h)

theorem Step.trans0 {s s' s'' : Shared} {H H' H'' : Hp} (x : Step noF s H s' H') (y : Step noF s' H' s'' H'') : Step noF s H s'' H'' := x.trans y

theorem Step.mono {F F' : Addr → Prop} {s s' : Shared} {H H' : Hp} (x : Step F s H s' H') (hF : ∀ a, F a → F' a) : Step F' s H s' H' :=
  ⟨x.same, x.keep.mono fun a h => h.imp id (hF a), x.grow, x.live⟩
theorem Step.up {F : Addr → Prop} {s s' : Shared} {H H' : Hp} (x : Step noF s H s' H') : Step F s H s' H' := x.mono fun _ h => h.elim

/-- tuples stay over a step -/
theorem Step.tups {F : Addr → Prop} {s s' : Shared} {H H' : Hp} (x : Step F s H s' H') (i : Inv cx H s) (nt : NoTup s.heap F) :
    ∀ a vs n, s.heap.get? a = some ⟨.type "tuple", none, .seq vs n, #[]⟩ → s'.heap.get? a = some ⟨.type "tuple", none, .seq vs n, #[]⟩ :=
  tup_keep (fun a h vs n e => h.elim (fun h => i.ok.noTup a h vs n e) fun h => nt a h vs n e) x.keep
theorem noTup_noF {h : Heap} : NoTup h noF := fun _ h => h.elim

theorem Step.rep {s s' : Shared} {H H' : Hp} (x : Step noF s H s' H') (i : Inv cx H s) {v : Value} {p : PV} (r : Rep cx s.heap v p) : Rep cx s'.heap v p :=
  rep_keep (x.tups i noTup_noF) p r
theorem Step.repL {s s' : Shared} {H H' : Hp} (x : Step noF s H s' H') (i : Inv cx H s) {vs : List Value} {ps : List PV} (r : RepL cx s.heap vs ps) : RepL cx s'.heap vs ps :=
  repL_keep (x.tups i noTup_noF) ps r

theorem live_of {h h' : Heap} (hk : ∀ b o, h.get? b = some o → h'.get? b = some o) (a : Addr) (ha : h.get? a ≠ none) : h'.get? a ≠ none := by
  cases e : h.get? a with
  | none => exact absurd e ha
  | some o => rw [hk a o e]; simp
theorem live_but {h h' : Heap} {c : Addr} (hk : ∀ b o, b ≠ c → h.get? b = some o → h'.get? b = some o) (hc : h'.get? c ≠ none) (a : Addr) (ha : h.get? a ≠ none) : h'.get? a ≠ none := by
  by_cases hac : a = c
  · rw [hac]; exact hc
  · cases e : h.get? a with
    | none => exact absurd e ha
    | some o => rw [hk a o hac e]; simp
theorem HoldsO.live {h : Heap} {a : Addr} {o : AO} (x : HoldsO cx h a o) : h.get? a ≠ none := by
  intro e
  cases o <;> simp only [HoldsO] at x <;> simp_all

/-- tokens alone -/
theorem Inv.toks {H : Hp} {s : Shared} (i : Inv cx H s) (n : Nat) : Inv cx H { s with toks := n } := ⟨i.base, i.out, i.ok⟩
theorem Step.toks {F : Addr → Prop} (s : Shared) (H : Hp) (n : Nat) : Step F s H { s with toks := n } H := ⟨⟨s.heap, n, rfl⟩, .refl _ _, fun _ h => .inl h, fun _ h => h⟩

/-- a step in which nothing that stood changed (but perhaps objects that no one tracks were made) -/
theorem Inv.grown {H : Hp} {s s' : Shared} (i : Inv cx H s) (hk : ∀ b o, s.heap.get? b = some o → s'.heap.get? b = some o) : Inv cx H s' :=
  ⟨fun b o e => hk b o (i.base b o e), i.out, fun a o e => (i.ok a o e).keep (X := noF) (fun _ _ _ e => hk _ _ e) fun _ e => hk _ _ e⟩
theorem Step.grown {F : Addr → Prop} {s s' : Shared} {H : Hp} (hs : Same s s') (hk : ∀ b o, s.heap.get? b = some o → s'.heap.get? b = some o) : Step F s H s' H :=
  ⟨hs, fun b o _ e => hk b o e, fun _ h => .inl h, live_of hk⟩

/-- a new tracked object -/
theorem Inv.new {H : Hp} {s s' : Shared} {a : Addr} {o : AO} (i : Inv cx H s) (hk : ∀ b o, s.heap.get? b = some o → s'.heap.get? b = some o) (ha : s.heap.get? a = none) (ho : HoldsO cx s'.heap a o) : Inv cx (upd H a o) s' := by
  refine ⟨fun b o e => hk b o (i.base b o e), fun b ob e => ?_, fun b ob e => ?_⟩
  · by_cases hb : b = a
    · subst hb; have := i.base b ob e; rw [ha] at this; cases this
    · rw [upd_ne _ _ hb]; exact i.out b ob e
  · by_cases hb : b = a
    · subst hb; rw [upd_self] at e; cases e; exact ho
    · rw [upd_ne _ _ hb] at e
      exact (i.ok b ob e).keep (X := noF) (fun _ _ _ e => hk _ _ e) fun _ e => hk _ _ e
theorem Step.new {F : Addr → Prop} {s s' : Shared} {H : Hp} {a : Addr} {o : AO} (hs : Same s s') (hk : ∀ b o, s.heap.get? b = some o → s'.heap.get? b = some o) (ha : s.heap.get? a = none) : Step F s H s' (upd H a o) :=
  ⟨hs, fun b o _ e => hk b o e, fun b hb => by
    by_cases h : b = a
    · subst h; exact .inr ha
    · rw [upd_ne _ _ h] at hb; exact .inl hb, live_of hk⟩

/-- a tracked object changed -/
theorem Inv.set {H : Hp} {s s' : Shared} {a : Addr} {o : AO} (i : Inv cx H s) (hk : ∀ b o, b ≠ a → s.heap.get? b = some o → s'.heap.get? b = some o) (ha : H a ≠ none) (ho : HoldsO cx s'.heap a o) : Inv cx (upd H a o) s' := by
  have hb : ∀ b ob, cx.base b ob → b ≠ a := fun b ob e h => by subst h; exact ha (i.out b ob e)
  have nt : ∀ b vs n, s.heap.get? b = some ⟨.type "tuple", none, .seq vs n, #[]⟩ → b ≠ a := fun b vs n e h => by subst h; exact i.ok.noTup b ha vs n e
  refine ⟨fun b ob e => hk b ob (hb b ob e) (i.base b ob e), fun b ob e => ?_, fun b ob e => ?_⟩
  · rw [upd_ne _ _ (hb b ob e)]; exact i.out b ob e
  · by_cases hba : b = a
    · subst hba; rw [upd_self] at e; cases e; exact ho
    · rw [upd_ne _ _ hba] at e
      exact (i.ok b ob e).keep (X := noF) (fun b vs n e => hk b _ (nt b vs n e) e) fun _ e => hk b _ hba e
theorem Step.set {F : Addr → Prop} {s s' : Shared} {H : Hp} {a : Addr} {o : AO} (hs : Same s s') (hk : ∀ b o, b ≠ a → s.heap.get? b = some o → s'.heap.get? b = some o) (ha : H a ≠ none) (hl : s'.heap.get? a ≠ none) : Step F s H s' (upd H a o) :=
  ⟨hs, fun b o hb e => hk b o (fun h => hb (.inl (by subst h; exact ha))) e, fun b hb => by
    by_cases h : b = a
    · subst h; exact .inl ha
    · rw [upd_ne _ _ h] at hb; exact .inl hb, live_but hk hl⟩

theorem rep_grown {h h' : Heap} (hk : ∀ b o, h.get? b = some o → h'.get? b = some o) {v : Value} {p : PV} (r : Rep cx h v p) : Rep cx h' v p := rep_keep (fun _ _ _ e => hk _ _ e) p r
theorem repL_grown {h h' : Heap} (hk : ∀ b o, h.get? b = some o → h'.get? b = some o) {v : List Value} {p : List PV} (r : RepL cx h v p) : RepL cx h' v p := repL_keep (fun _ _ _ e => hk _ _ e) p r

end Mine
end

/-! M3 -/
section
set_option autoImplicit false
namespace Mine
open PySem

/-! ## the mini syntax -/
inductive MTgt where
  | var (i : Nat)
  | two (i j : Nat)

inductive Meth where
  | append | clear | join

mutual
inductive MExpr where
  | none
  | bool (b : Bool)
  | int (i : Int)
  | str (s : Str)
  | var (i : Nat)
  | glob (x : Str)
  | gconst (p : PV)
  | and (a b : MExpr)
  | or (a b : MExpr)
  | not (a : MExpr)
  | neg (a : MExpr)
  | bin (op : Operator) (l r : MExpr)
  | cmp (op : CmpOp) (l r : MExpr)
  | cmp2 (op op' : CmpOp) (a b c : MExpr)
  | call (f : MExpr) (args : MExprs)
  | meth (o : MExpr) (name : Meth) (args : MExprs)
  | sub (o i : MExpr)
  | sliceTo (o hi : MExpr)
  | sliceFrom (o lo : MExpr)
  | list (es : MExprs)
  | tup (es : MExprs)
  | dict0
  | dict1 (k v : MExpr)
  | listOf (e : MExpr)
  | comp (t : MTgt) (it : MIter) (elt : MExpr)
  | compIf (t : MTgt) (it : MIter) (cond elt : MExpr)
inductive MExprs where
  | nil
  | cons (e : MExpr) (es : MExprs)
inductive MIter where
  | ex (e : MExpr)
  | enum (e : MExpr)
  | rng (n : MExpr)
end

mutual
inductive MStmt where
  | expr (e : MExpr)
  | asg (t : MTgt) (e : MExpr)
  | ret (e : MExpr)
  | ite (t : MExpr) (b o : MStmts)
  | for (t : MTgt) (it : MIter) (b : MStmts)
inductive MStmts where
  | nil
  | cons (s : MStmt) (ss : MStmts)
end

structure MFun where
  names : List Str
  params : Nat
  body : MStmts

inductive Fl where
  | next
  | ret (p : PV)

/-! ## the rooms -/
noncomputable def Room (n : Nat) (A : Around) : Prop := A.depth + n + 1 < recursionLimit ∧ A.units + 200 * n + 200 < cLine

theorem Room.mono {n m : Nat} {A : Around} (h : Room n A) (hm : m ≤ n) : Room m A := ⟨by have := h.1; omega, by have := h.2; omega⟩

/-! ## semantic predicates -/
noncomputable def Post (cx : Cx) (s : Shared) (H : Hp) (Q : PV → Hp → Prop) : Value → Shared → Prop := fun v s' => ∃ p H', Rep cx s'.heap v p ∧ Inv cx H' s' ∧ Step noF s H s' H' ∧ Q p H'
noncomputable def EPost (cx : Cx) (s : Shared) (H : Hp) (E : Addr → Hp → Prop) : Value → Shared → Prop := fun e s' => ∃ x H', e = .ref x ∧ Inv cx H' s' ∧ Step noF s H s' H' ∧ E x H'

/-- the semantic weakest precondition of a piece that takes values -/
noncomputable def SW (cx : Cx) (n : Nat) (args : List PV) (t : List Value → Sem Value) (Q : PV → Hp → Prop) (E : Addr → Hp → Prop) (H : Hp) : Prop :=
  ∀ (A : Around) (s : Shared) (vals : List Value), Room n A → A.handled = none → RepL cx s.heap vals args → Inv cx H s →
    wpAny (model cx.prog cx.w) A (t vals) (Post cx s H Q) (EPost cx s H E) s

noncomputable def callT : List Value → Sem Value
  | f :: vs => call f vs
  | [] => unsupported ""
noncomputable def CallW (cx : Cx) (n : Nat) (f : PV) (args : List PV) : (PV → Hp → Prop) → (Addr → Hp → Prop) → Hp → Prop := SW cx n (f :: args) callT
noncomputable def binT (op : Operator) : List Value → Sem Value
  | [a, b] => binaryOp op a b
  | _ => unsupported ""
noncomputable def BinW (cx : Cx) (n : Nat) (op : Operator) (a b : PV) : (PV → Hp → Prop) → (Addr → Hp → Prop) → Hp → Prop := SW cx n [a, b] (binT op)
noncomputable def cmpT (op : CmpOp) : List Value → Sem Value
  | [a, b] => compareOp op a b
  | _ => unsupported ""
noncomputable def CmpW (cx : Cx) (n : Nat) (op : CmpOp) (a b : PV) : (PV → Hp → Prop) → (Addr → Hp → Prop) → Hp → Prop := SW cx n [a, b] (cmpT op)

/-! ## plain functions -/
noncomputable def idx {α : Type} (l : List α) (k : Int) : Option α := if 0 ≤ k then l[k.toNat]? else if 0 ≤ k + l.length then l[(k + l.length).toNat]? else Option.none
noncomputable def chr (c : Nat) : PV := .str ⟨#[c]⟩
noncomputable def chars (s : Str) : List PV := s.cps.toList.map chr

noncomputable def setv (σ : List (Option PV)) (i : Nat) (p : PV) : List (Option PV) := σ.set i (some p)

noncomputable def slTo {α : Type} (l : List α) (k : Int) : List α := if 0 ≤ k then l.take k.toNat else l.take (l.length + k).toNat
noncomputable def slFrom {α : Type} (l : List α) (k : Int) : List α := if 0 ≤ k then l.drop k.toNat else l.drop (l.length + k).toNat
noncomputable def bindT (σ : List (Option PV)) : MTgt → PV → Option (List (Option PV))
  | .var i, x => some (setv σ i x)
  | .two i j, .tup [a, b] => some (setv (setv σ i a) j b)
  | _, _ => none
noncomputable def noE : Addr → Hp → Prop := fun _ _ => False

/-- a truth value; a whole number -/
noncomputable def asB (v : PV) (K : Bool → Prop) : Prop := match v with
  | .bool b => K b
  | _ => False
noncomputable def asI (v : PV) (K : Int → Prop) : Prop := match v with
  | .int i => K i
  | _ => False
@[simp] theorem asB_bool (b : Bool) (K : Bool → Prop) : asB (.bool b) K = K b := rfl
@[simp] theorem asI_int (b : Int) (K : Int → Prop) : asI (.int b) K = K b := rfl

/-! ## the pieces of the abstract weakest precondition -/
section
variable (cx : Cx) (n : Nat)

noncomputable def binII (a b : PV) (k : Int → Int → Prop) (d : Prop) : Prop := match a with
  | .int x => (match b with
    | .int y => k x y
    | _ => d)
  | _ => d
noncomputable def binAdd (a b : PV) (Q : PV → Hp → Prop) (H : Hp) (d : Prop) : Prop := match a with
  | .int x => (match b with
    | .int y => Q (.int (x + y)) H
    | _ => d)
  | .str x => (match b with
    | .str y => x.length + y.length ≤ sizeLine ∧ Q (.str (x ++ y)) H
    | _ => d)
  | .tup x => (match b with
    | .tup y => x.length + y.length ≤ sizeLine ∧ Q (.tup (x ++ y)) H
    | _ => d)
  | _ => d
noncomputable def binA (op : Operator) (a b : PV) (Q : PV → Hp → Prop) (E : Addr → Hp → Prop) (H : Hp) : Prop :=
  match op with
  | .Add => binAdd a b Q H (BinW cx n .Add a b Q E H)
  | .Sub => binII a b (fun x y => Q (.int (x - y)) H) (BinW cx n .Sub a b Q E H)
  | .Mult => binII a b (fun x y => IntMulOk x y ∧ Q (.int (x * y)) H) (BinW cx n .Mult a b Q E H)
  | .FloorDiv => binII a b (fun x y => (0 < y ∧ y < 2 ^ 62) ∧ Q (.int (x / y)) H) (BinW cx n .FloorDiv a b Q E H)
  | .Mod => binII a b (fun x y => 0 < y ∧ Q (.int (x % y)) H) (BinW cx n .Mod a b Q E H)
  | .Pow => binII a b (fun x y => (0 ≤ y ∧ y ≤ 1000 ∧ x.natAbs < 2 ^ 64) ∧ Q (.int (x ^ y.toNat)) H) (BinW cx n .Pow a b Q E H)
  | op => BinW cx n op a b Q E H

noncomputable def cmpSS (a b : PV) (k : Str → Str → Prop) (d : Prop) : Prop := match a with
  | .str x => (match b with
    | .str y => k x y
    | _ => d)
  | _ => d
/-- whether a thing is None: a thing of the abstract world other than a name -/
noncomputable def isNone? : PV → Option Bool
  | .none => some true
  | .g _ => Option.none
  | .bi _ => Option.none
  | _ => some false
noncomputable def cmpNone (neg : Bool) (a b : PV) (Q : PV → Hp → Prop) (H : Hp) (d : Prop) : Prop := match b with
  | .none => (match isNone? a with
    | some r => Q (.bool (r != neg)) H
    | Option.none => d)
  | _ => d
noncomputable def cmpBB (a b : PV) (k : Bool → Bool → Prop) (d : Prop) : Prop := match a with
  | .bool x => (match b with
    | .bool y => k x y
    | _ => d)
  | _ => d
noncomputable def cmpA (op : CmpOp) (a b : PV) (Q : PV → Hp → Prop) (E : Addr → Hp → Prop) (H : Hp) : Prop :=
  match op with
  | .Lt => binII a b (fun x y => Q (.bool (decide (x < y))) H) (CmpW cx n .Lt a b Q E H)
  | .LtE => binII a b (fun x y => Q (.bool (decide (x ≤ y))) H) (CmpW cx n .LtE a b Q E H)
  | .Gt => binII a b (fun x y => Q (.bool (decide (y < x))) H) (CmpW cx n .Gt a b Q E H)
  | .GtE => binII a b (fun x y => Q (.bool (decide (y ≤ x))) H) (CmpW cx n .GtE a b Q E H)
  | .Eq => binII a b (fun x y => Q (.bool (decide (x = y))) H) (cmpSS a b (fun x y => Q (.bool (decide (x = y))) H) (CmpW cx n .Eq a b Q E H))
  | .NotEq => binII a b (fun x y => Q (.bool (decide (x ≠ y))) H) (cmpSS a b (fun x y => Q (.bool (decide (x ≠ y))) H) (CmpW cx n .NotEq a b Q E H))
  | .Is => cmpNone false a b Q H (CmpW cx n .Is a b Q E H)
  | .IsNot => cmpNone true a b Q H (cmpBB a b (fun x y => Q (.bool (x != y)) H) (CmpW cx n .IsNot a b Q E H))
  | .In => CmpW cx n .In a b Q E H
  | .NotIn => CmpW cx n .NotIn a b Q E H

/-- an item of a row -/
noncomputable def itemA (l : List PV) (i : PV) (Q : PV → Hp → Prop) (H : Hp) : Prop := match i with
  | .int k => (-(2 ^ 62) < k ∧ k < 2 ^ 62) ∧ ∃ p, idx l k = some p ∧ Q p H
  | _ => False
noncomputable def subA (o i : PV) (Q : PV → Hp → Prop) (H : Hp) : Prop :=
  match o with
  | .tup l => itemA l i Q H
  | .str s => itemA (chars s) i Q H
  | .ref a => (match H a with
    | some (.list l) => itemA l i Q H
    | some (.froz _ l) => itemA l i Q H
    | _ => False)
  | _ => False

noncomputable def cutA (o i : PV) (f : {α : Type} → List α → Int → List α) (Q : PV → Hp → Prop) (H : Hp) : Prop :=
  match i with
  | .int k => (-(2 ^ 62) < k ∧ k < 2 ^ 62) ∧ (match o with
    | .tup l => l.length ≤ sizeLine ∧ Q (.tup (f l k)) H
    | .str s => s.length ≤ sizeLine ∧ Q (.str ⟨(f s.cps.toList k).toArray⟩) H
    | _ => False)
  | _ => False
noncomputable def slToA (o i : PV) (Q : PV → Hp → Prop) (H : Hp) : Prop := cutA o i slTo Q H
noncomputable def slFromA (o i : PV) (Q : PV → Hp → Prop) (H : Hp) : Prop := cutA o i slFrom Q H

/-- which callee a method's name means -/
noncomputable def methA (o : PV) (m : Meth) (Q : PV → Prop) (H : Hp) : Prop :=
  match m with
  | .join => (match o with
    | .str _ => Q (.bi "str.join")
    | _ => False)
  | .append => (match o with
    | .ref a => (match H a with
      | some (.list _) => Q (.bi "list.append")
      | _ => False)
    | _ => False)
  | .clear => (match o with
    | .ref a => (match H a with
      | some (.list _) => Q (.bi "list.clear")
      | _ => False)
    | _ => False)

/-- what is gone through -/
noncomputable def itemsA (v : PV) (Q : List PV → (Hp → Prop) → Hp → Prop) (H : Hp) : Prop :=
  match v with
  | .str s => Q (chars s) (fun _ => True) H
  | .tup l => Q l (fun _ => True) H
  | .ref a => match H a with
    | some (.list l) => Q l (fun H => H a = some (.list l)) H
    | _ => False
  | _ => False
/-- what list takes -/
noncomputable def lotA (v : PV) (Q : List PV → Prop) (H : Hp) : Prop :=
  match v with
  | .tup l => Q l
  | .ref a => match H a with
    | some (.list l) => Q l
    | _ => False
  | _ => False
noncomputable def seqA (v : PV) (Q : List PV → (Hp → Prop) → Hp → Prop) (H : Hp) : Prop :=
  match v with
  | .str s => Q (chars s) (fun _ => True) H
  | .ref a => match H a with
    | some (.list l) => Q l (fun H => H a = some (.list l)) H
    | _ => False
  | _ => False
noncomputable def enumL : Nat → List PV → List PV
  | _, [] => []
  | k, x :: xs => .tup [.int k, x] :: enumL (k + 1) xs
noncomputable def rangeL (a b : Int) : List PV := (List.range (b - a).toNat).map fun (k : Nat) => .int (a + (k : Int))

noncomputable def compW (dep : Hp → Prop) (f : PV → (Option PV → Hp → Prop) → Hp → Prop) : List PV → List PV → (PV → Hp → Prop) → Hp → Prop
  | [], acc, Q, H => dep H ∧ ∀ a, H a = none → Q (.ref a) (upd H a (.list acc))
  | x :: xs, acc, Q, H => dep H ∧ f x (fun r H' => compW dep f xs (match r with | some p => acc ++ [p] | none => acc) Q H') H

mutual
noncomputable def wE (σ : List (Option PV)) : MExpr → (PV → Hp → Prop) → (Addr → Hp → Prop) → Hp → Prop
  | .none, Q, _, H => Q .none H
  | .bool b, Q, _, H => Q (.bool b) H
  | .int i, Q, _, H => Q (.int i) H
  | .str s, Q, _, H => Q (.str s) H
  | .var i, Q, _, H => match σ[i]? with
    | some (some p) => Q p H
    | _ => False
  | .glob x, Q, _, H => Q (.g x) H
  | .gconst p, Q, _, H => Q p H
  | .and a b, Q, E, H => wE σ a (fun v H₁ => asB v fun x => if x = true then wE σ b Q E H₁ else Q (.bool false) H₁) E H
  | .or a b, Q, E, H => wE σ a (fun v H₁ => asB v fun x => if x = true then Q (.bool true) H₁ else wE σ b Q E H₁) E H
  | .not a, Q, E, H => wE σ a (fun v H₁ => asB v fun b => Q (.bool !b) H₁) E H
  | .neg a, Q, E, H => wE σ a (fun v H₁ => asI v fun i => Q (.int (-i)) H₁) E H
  | .bin op l r, Q, E, H => wE σ l (fun a H₁ => wE σ r (fun b H₂ => binA cx n op a b Q E H₂) E H₁) E H
  | .cmp op l r, Q, E, H => wE σ l (fun a H₁ => wE σ r (fun b H₂ => cmpA cx n op a b Q E H₂) E H₁) E H
  | .cmp2 op op' l m r, Q, E, H => wE σ l (fun a H₁ => wE σ m (fun b H₂ => cmpA cx n op a b (fun v H₃ => asB v fun x => if x = true then wE σ r (fun c H₄ => cmpA cx n op' b c Q E H₄) E H₃ else Q (.bool false) H₃) E H₂) E H₁) E H
  | .call f args, Q, E, H => wE σ f (fun fv H₁ => wEs σ args (fun vs H₂ => CallW cx n fv vs Q E H₂) E H₁) E H
  | .meth o m args, Q, E, H => wE σ o (fun ov H₁ => methA ov m (fun fv => wEs σ args (fun vs H₂ => CallW cx n fv (ov :: vs) Q E H₂) E H₁) H₁) E H
  | .sub o i, Q, E, H => wE σ o (fun ov H₁ => wE σ i (fun iv H₂ => subA ov iv Q H₂) E H₁) E H
  | .sliceTo o i, Q, E, H => wE σ o (fun ov H₁ => wE σ i (fun iv H₂ => slToA ov iv Q H₂) E H₁) E H
  | .sliceFrom o i, Q, E, H => wE σ o (fun ov H₁ => wE σ i (fun iv H₂ => slFromA ov iv Q H₂) E H₁) E H
  | .list es, Q, E, H => wEs σ es (fun ps H₁ => ps.length ≤ sizeLine ∧ ∀ a, H₁ a = none → Q (.ref a) (upd H₁ a (.list ps))) E H
  | .tup es, Q, E, H => wEs σ es (fun ps H₁ => ps.length ≤ sizeLine ∧ Q (.tup ps) H₁) E H
  | .dict0, Q, _, H => ∀ a, H a = none → Q (.ref a) (upd H a .dict)
  | .dict1 k v, Q, E, H => wE σ k (fun kv H₁ => wE σ v (fun _ H₂ => asI kv fun _ => ∀ a, H₂ a = none → Q (.ref a) (upd H₂ a .dict)) E H₁) E H
  | .listOf e, Q, E, H => wE σ e (fun v H₁ => lotA v (fun items => items.length ≤ sizeLine ∧ ∀ a, H₁ a = none → Q (.ref a) (upd H₁ a (.list items))) H₁) E H
  | .comp t it elt, Q, E, H => wIt σ it (fun items dep H₁ => items.length ≤ sizeLine ∧ compW dep (fun x K H₂ => ∃ σ', bindT (σ ++ [none, none]) t x = some σ' ∧ wE σ' elt (fun p H₃ => K (some p) H₃) noE H₂) items [] Q H₁) E H
  | .compIf t it c elt, Q, E, H => wIt σ it (fun items dep H₁ => items.length ≤ sizeLine ∧ compW dep (fun x K H₂ => ∃ σ', bindT (σ ++ [none, none]) t x = some σ' ∧ wE σ' c (fun v H₃ => asB v fun x => if x = true then wE σ' elt (fun p H₄ => K (some p) H₄) noE H₃ else K none H₃) noE H₂) items [] Q H₁) E H
noncomputable def wEs (σ : List (Option PV)) : MExprs → (List PV → Hp → Prop) → (Addr → Hp → Prop) → Hp → Prop
  | .nil, Q, _, H => Q [] H
  | .cons e es, Q, E, H => wE σ e (fun p H₁ => wEs σ es (fun ps H₂ => Q (p :: ps) H₂) E H₁) E H
noncomputable def wIt (σ : List (Option PV)) : MIter → (List PV → (Hp → Prop) → Hp → Prop) → (Addr → Hp → Prop) → Hp → Prop
  | .ex e, Q, E, H => wE σ e (fun v H₁ => itemsA v Q H₁) E H
  | .enum e, Q, E, H => wE σ e (fun v H₁ => seqA v (fun l dep H₂ => Q (enumL 0 l) dep H₂) H₁) E H
  | .rng e, Q, E, H => wE σ e (fun v H₁ => asI v fun k => (-(2 ^ 62) < k ∧ k < 2 ^ 62) ∧ Q (rangeL 0 k) (fun _ => True) H₁) E H
end

/-- a for's turns -/
noncomputable def forW (dep : Hp → Prop) (bind : List (Option PV) → PV → Option (List (Option PV))) (body : (Fl → List (Option PV) → Hp → Prop) → List (Option PV) → Hp → Prop) (Q : Fl → List (Option PV) → Hp → Prop) :
    List PV → List (Option PV) → Hp → Prop
  | [], σ, H => dep H ∧ Q .next σ H
  | x :: xs, σ, H => dep H ∧ ∃ σ₁, bind σ x = some σ₁ ∧ body (fun fl σ₂ H₂ => match fl with
      | .next => forW dep bind body Q xs σ₂ H₂
      | .ret p => Q (.ret p) σ₂ H₂) σ₁ H

noncomputable def noE' : Addr → List (Option PV) → Hp → Prop := fun _ _ _ => False

mutual
noncomputable def wS : MStmt → (Fl → List (Option PV) → Hp → Prop) → (Addr → List (Option PV) → Hp → Prop) → List (Option PV) → Hp → Prop
  | .expr e, Q, E, σ, H => wE cx n σ e (fun _ H₁ => Q .next σ H₁) (fun x H => E x σ H) H
  | .asg t e, Q, E, σ, H => wE cx n σ e (fun p H₁ => ∃ σ', bindT σ t p = some σ' ∧ Q .next σ' H₁) (fun x H => E x σ H) H
  | .ret e, Q, E, σ, H => wE cx n σ e (fun p H₁ => Q (.ret p) σ H₁) (fun x H => E x σ H) H
  | .ite t b o, Q, E, σ, H => wE cx n σ t (fun v H₁ => asB v fun x => if x = true then wSs b Q E σ H₁ else wSs o Q E σ H₁) (fun x H => E x σ H) H
  | .for t it b, Q, E, σ, H => wIt cx n σ it (fun items dep H₁ => forW dep (fun σ x => bindT σ t x) (fun K σ H => wSs b K noE' σ H) Q items σ H₁) (fun x H => E x σ H) H
noncomputable def wSs : MStmts → (Fl → List (Option PV) → Hp → Prop) → (Addr → List (Option PV) → Hp → Prop) → List (Option PV) → Hp → Prop
  | .nil, Q, _, σ, H => Q .next σ H
  | .cons s ss, Q, E, σ, H => wS s (fun fl σ₁ H₁ => match fl with
      | .next => wSs ss Q E σ₁ H₁
      | fl => Q fl σ₁ H₁) E σ H
end
end

section
variable {cx : Cx} {n : Nat} {σ : List (Option PV)} {E : Addr → Hp → Prop} {H : Hp}
theorem wE_none {Q : PV → Hp → Prop} : wE cx n σ .none Q E H = (Q .none H) := rfl
theorem wE_boolc {Q : PV → Hp → Prop} {b : Bool} : wE cx n σ (.bool b) Q E H = (Q (.bool b) H) := rfl
theorem wE_int {Q : PV → Hp → Prop} {i : Int} : wE cx n σ (.int i) Q E H = (Q (.int i) H) := rfl
theorem wE_str {Q : PV → Hp → Prop} {s : Str} : wE cx n σ (.str s) Q E H = (Q (.str s) H) := rfl
theorem wE_var {Q : PV → Hp → Prop} {i : Nat} : wE cx n σ (.var i) Q E H = (match σ[i]? with
    | some (some p) => Q p H
    | _ => False) := rfl
theorem wE_glob {Q : PV → Hp → Prop} {x : Str} : wE cx n σ (.glob x) Q E H = (Q (.g x) H) := rfl
theorem wE_gconst {Q : PV → Hp → Prop} {p : PV} : wE cx n σ (.gconst p) Q E H = (Q p H) := rfl
theorem wE_and {Q : PV → Hp → Prop} {a : MExpr} {b : MExpr} : wE cx n σ (.and a b) Q E H = (wE cx n σ a (fun v H₁ => asB v fun x => if x = true then wE cx n σ b Q E H₁ else Q (.bool false) H₁) E H) := rfl
theorem wE_or {Q : PV → Hp → Prop} {a : MExpr} {b : MExpr} : wE cx n σ (.or a b) Q E H = (wE cx n σ a (fun v H₁ => asB v fun x => if x = true then Q (.bool true) H₁ else wE cx n σ b Q E H₁) E H) := rfl
theorem wE_not {Q : PV → Hp → Prop} {a : MExpr} : wE cx n σ (.not a) Q E H = (wE cx n σ a (fun v H₁ => asB v fun b => Q (.bool !b) H₁) E H) := rfl
theorem wE_neg {Q : PV → Hp → Prop} {a : MExpr} : wE cx n σ (.neg a) Q E H = (wE cx n σ a (fun v H₁ => asI v fun i => Q (.int (-i)) H₁) E H) := rfl
theorem wE_bin {Q : PV → Hp → Prop} {op : Operator} {l : MExpr} {r : MExpr} : wE cx n σ (.bin op l r) Q E H = (wE cx n σ l (fun a H₁ => wE cx n σ r (fun b H₂ => binA cx n op a b Q E H₂) E H₁) E H) := rfl
theorem wE_cmp {Q : PV → Hp → Prop} {op : CmpOp} {l : MExpr} {r : MExpr} : wE cx n σ (.cmp op l r) Q E H = (wE cx n σ l (fun a H₁ => wE cx n σ r (fun b H₂ => cmpA cx n op a b Q E H₂) E H₁) E H) := rfl
theorem wE_cmp2 {Q : PV → Hp → Prop} {op : CmpOp} {op' : CmpOp} {l : MExpr} {m : MExpr} {r : MExpr} : wE cx n σ (.cmp2 op op' l m r) Q E H = (wE cx n σ l (fun a H₁ => wE cx n σ m (fun b H₂ => cmpA cx n op a b (fun v H₃ => asB v fun x => if x = true then wE cx n σ r (fun c H₄ => cmpA cx n op' b c Q E H₄) E H₃ else Q (.bool false) H₃) E H₂) E H₁) E H) := rfl
theorem wE_call {Q : PV → Hp → Prop} {f : MExpr} {args : MExprs} : wE cx n σ (.call f args) Q E H = (wE cx n σ f (fun fv H₁ => wEs cx n σ args (fun vs H₂ => CallW cx n fv vs Q E H₂) E H₁) E H) := rfl
theorem wE_meth {Q : PV → Hp → Prop} {o : MExpr} {m : Meth} {args : MExprs} : wE cx n σ (.meth o m args) Q E H = (wE cx n σ o (fun ov H₁ => methA ov m (fun fv => wEs cx n σ args (fun vs H₂ => CallW cx n fv (ov :: vs) Q E H₂) E H₁) H₁) E H) := rfl
theorem wE_sub {Q : PV → Hp → Prop} {o : MExpr} {i : MExpr} : wE cx n σ (.sub o i) Q E H = (wE cx n σ o (fun ov H₁ => wE cx n σ i (fun iv H₂ => subA ov iv Q H₂) E H₁) E H) := rfl
theorem wE_sliceTo {Q : PV → Hp → Prop} {o : MExpr} {i : MExpr} : wE cx n σ (.sliceTo o i) Q E H = (wE cx n σ o (fun ov H₁ => wE cx n σ i (fun iv H₂ => slToA ov iv Q H₂) E H₁) E H) := rfl
theorem wE_sliceFrom {Q : PV → Hp → Prop} {o : MExpr} {i : MExpr} : wE cx n σ (.sliceFrom o i) Q E H = (wE cx n σ o (fun ov H₁ => wE cx n σ i (fun iv H₂ => slFromA ov iv Q H₂) E H₁) E H) := rfl
theorem wE_list {Q : PV → Hp → Prop} {es : MExprs} : wE cx n σ (.list es) Q E H = (wEs cx n σ es (fun ps H₁ => ps.length ≤ sizeLine ∧ ∀ a, H₁ a = none → Q (.ref a) (upd H₁ a (.list ps))) E H) := rfl
theorem wE_tup {Q : PV → Hp → Prop} {es : MExprs} : wE cx n σ (.tup es) Q E H = (wEs cx n σ es (fun ps H₁ => ps.length ≤ sizeLine ∧ Q (.tup ps) H₁) E H) := rfl
theorem wE_dict0 {Q : PV → Hp → Prop} : wE cx n σ .dict0 Q E H = (∀ a, H a = none → Q (.ref a) (upd H a .dict)) := rfl
theorem wE_dict1 {Q : PV → Hp → Prop} {k : MExpr} {v : MExpr} : wE cx n σ (.dict1 k v) Q E H = (wE cx n σ k (fun kv H₁ => wE cx n σ v (fun _ H₂ => asI kv fun _ => ∀ a, H₂ a = none → Q (.ref a) (upd H₂ a .dict)) E H₁) E H) := rfl
theorem wE_listOf {Q : PV → Hp → Prop} {e : MExpr} : wE cx n σ (.listOf e) Q E H = (wE cx n σ e (fun v H₁ => lotA v (fun items => items.length ≤ sizeLine ∧ ∀ a, H₁ a = none → Q (.ref a) (upd H₁ a (.list items))) H₁) E H) := rfl
theorem wE_comp {Q : PV → Hp → Prop} {t : MTgt} {it : MIter} {elt : MExpr} : wE cx n σ (.comp t it elt) Q E H = (wIt cx n σ it (fun items dep H₁ => items.length ≤ sizeLine ∧ compW dep (fun x K H₂ => ∃ σ', bindT (σ ++ [none, none]) t x = some σ' ∧ wE cx n σ' elt (fun p H₃ => K (some p) H₃) noE H₂) items [] Q H₁) E H) := rfl
theorem wE_compIf {Q : PV → Hp → Prop} {t : MTgt} {it : MIter} {c : MExpr} {elt : MExpr} : wE cx n σ (.compIf t it c elt) Q E H = (wIt cx n σ it (fun items dep H₁ => items.length ≤ sizeLine ∧ compW dep (fun x K H₂ => ∃ σ', bindT (σ ++ [none, none]) t x = some σ' ∧ wE cx n σ' c (fun v H₃ => asB v fun x => if x = true then wE cx n σ' elt (fun p H₄ => K (some p) H₄) noE H₃ else K none H₃) noE H₂) items [] Q H₁) E H) := rfl
theorem wEs_nil {Q : List PV → Hp → Prop} : wEs cx n σ .nil Q E H = (Q [] H) := rfl
theorem wEs_cons {Q : List PV → Hp → Prop} {e : MExpr} {es : MExprs} : wEs cx n σ (.cons e es) Q E H = (wE cx n σ e (fun p H₁ => wEs cx n σ es (fun ps H₂ => Q (p :: ps) H₂) E H₁) E H) := rfl
theorem wIt_ex {Q : List PV → (Hp → Prop) → Hp → Prop} {e : MExpr} : wIt cx n σ (.ex e) Q E H = (wE cx n σ e (fun v H₁ => itemsA v Q H₁) E H) := rfl
theorem wIt_enum {Q : List PV → (Hp → Prop) → Hp → Prop} {e : MExpr} : wIt cx n σ (.enum e) Q E H = (wE cx n σ e (fun v H₁ => seqA v (fun l dep H₂ => Q (enumL 0 l) dep H₂) H₁) E H) := rfl
theorem wIt_rng {Q : List PV → (Hp → Prop) → Hp → Prop} {e : MExpr} : wIt cx n σ (.rng e) Q E H = (wE cx n σ e (fun v H₁ => asI v fun k => (-(2 ^ 62) < k ∧ k < 2 ^ 62) ∧ Q (rangeL 0 k) (fun _ => True) H₁) E H) := rfl
theorem wS_expr {Q : Fl → List (Option PV) → Hp → Prop} {E : Addr → List (Option PV) → Hp → Prop} {e : MExpr} : wS cx n (.expr e) Q E σ H = (wE cx n σ e (fun _ H₁ => Q .next σ H₁) (fun x H => E x σ H) H) := rfl
theorem wS_asg {Q : Fl → List (Option PV) → Hp → Prop} {E : Addr → List (Option PV) → Hp → Prop} {t : MTgt} {e : MExpr} : wS cx n (.asg t e) Q E σ H = (wE cx n σ e (fun p H₁ => ∃ σ', bindT σ t p = some σ' ∧ Q .next σ' H₁) (fun x H => E x σ H) H) := rfl
theorem wS_ret {Q : Fl → List (Option PV) → Hp → Prop} {E : Addr → List (Option PV) → Hp → Prop} {e : MExpr} : wS cx n (.ret e) Q E σ H = (wE cx n σ e (fun p H₁ => Q (.ret p) σ H₁) (fun x H => E x σ H) H) := rfl
theorem wS_ite {Q : Fl → List (Option PV) → Hp → Prop} {E : Addr → List (Option PV) → Hp → Prop} {t : MExpr} {b : MStmts} {o : MStmts} : wS cx n (.ite t b o) Q E σ H = (wE cx n σ t (fun v H₁ => asB v fun x => if x = true then wSs cx n b Q E σ H₁ else wSs cx n o Q E σ H₁) (fun x H => E x σ H) H) := rfl
theorem wS_for {Q : Fl → List (Option PV) → Hp → Prop} {E : Addr → List (Option PV) → Hp → Prop} {t : MTgt} {it : MIter} {b : MStmts} : wS cx n (.for t it b) Q E σ H = (wIt cx n σ it (fun items dep H₁ => forW dep (fun σ x => bindT σ t x) (fun K σ H => wSs cx n b K noE' σ H) Q items σ H₁) (fun x H => E x σ H) H) := rfl
theorem wSs_nil {Q : Fl → List (Option PV) → Hp → Prop} {E : Addr → List (Option PV) → Hp → Prop} : wSs cx n .nil Q E σ H = (Q .next σ H) := rfl
theorem wSs_cons {Q : Fl → List (Option PV) → Hp → Prop} {E : Addr → List (Option PV) → Hp → Prop} {s : MStmt} {ss : MStmts} : wSs cx n (.cons s ss) Q E σ H = (wS cx n s (fun fl σ₁ H₁ => match fl with
      | .next => wSs cx n ss Q E σ₁ H₁
      | fl => Q fl σ₁ H₁) E σ H) := rfl
end

end Mine
end

/-! M4 -/
section
set_option autoImplicit false
namespace Mine
open PySem PyProof.Rows

theorem post_mono {cx : Cx} {s : Shared} {H : Hp} {Q Q' : PV → Hp → Prop} (h : ∀ p H', Q p H' → Q' p H') (v : Value) (s' : Shared) (x : Post cx s H Q v s') : Post cx s H Q' v s' := by
  obtain ⟨p, H', r, i, st, q⟩ := x; exact ⟨p, H', r, i, st, h p H' q⟩
theorem epost_mono {cx : Cx} {s : Shared} {H : Hp} {E E' : Addr → Hp → Prop} (h : ∀ p H', E p H' → E' p H') (v : Value) (s' : Shared) (x : EPost cx s H E v s') : EPost cx s H E' v s' := by
  obtain ⟨p, H', r, i, st, q⟩ := x; exact ⟨p, H', r, i, st, h p H' q⟩
theorem SW.mono {cx : Cx} {n : Nat} {args : List PV} {t : List Value → Sem Value} {Q Q' : PV → Hp → Prop} {E E' : Addr → Hp → Prop} {H : Hp} (x : SW cx n args t Q E H)
    (hQ : ∀ p H', Q p H' → Q' p H') (hE : ∀ p H', E p H' → E' p H') : SW cx n args t Q' E' H :=
  fun A s vals hr hh hv i => wpAny_mono (x A s vals hr hh hv i) (post_mono hQ) (epost_mono hE)
theorem SW.room {cx : Cx} {n m : Nat} {args : List PV} {t : List Value → Sem Value} {Q : PV → Hp → Prop} {E : Addr → Hp → Prop} {H : Hp} (x : SW cx n args t Q E H) (hm : n ≤ m) : SW cx m args t Q E H :=
  fun A s vals hr hh hv i => x A s vals (hr.mono hm) hh hv i

theorem post_step {cx : Cx} {s s₁ : Shared} {H H₁ : Hp} {Q : PV → Hp → Prop} (st : Step noF s H s₁ H₁) (v : Value) (s' : Shared) (x : Post cx s₁ H₁ Q v s') : Post cx s H Q v s' := by
  obtain ⟨p, H', r, i, st', q⟩ := x; exact ⟨p, H', r, i, st.trans0 st', q⟩
theorem epost_step {cx : Cx} {s s₁ : Shared} {H H₁ : Hp} {E : Addr → Hp → Prop} (st : Step noF s H s₁ H₁) (v : Value) (s' : Shared) (x : EPost cx s₁ H₁ E v s') : EPost cx s H E v s' := by
  obtain ⟨p, H', r, i, st', q⟩ := x; exact ⟨p, H', r, i, st.trans0 st', q⟩

section
variable {cx : Cx} {s : Shared} {H : Hp} {Q : PV → Hp → Prop}
/-- ends -/
theorem post_here {v : Value} {p : PV} (i : Inv cx H s) (r : Rep cx s.heap v p) (q : Q p H) : Post cx s H Q v s := ⟨p, H, r, i, .refl _ _, q⟩
theorem post_tok {v : Value} {p : PV} {n : Nat} (i : Inv cx H s) (r : Rep cx s.heap v p) (q : Q p H) : Post cx s H Q v { s with toks := n } := ⟨p, H, r, i.toks n, .toks _ _ _, q⟩
theorem post_int {i : Int} {t : Tok} {n : Nat} (iv : Inv cx H s) (q : Q (.int i) H) : Post cx s H Q (.int i t) { s with toks := n } := post_tok iv (by simp [Rep]) q
theorem post_bool {b : Bool} (iv : Inv cx H s) (q : Q (.bool b) H) : Post cx s H Q (.bool b) s := post_here iv (by simp [Rep]) q
theorem post_none (iv : Inv cx H s) (q : Q .none H) : Post cx s H Q .none s := post_here iv (by simp [Rep]) q
theorem post_str {x : Str} {t : Tok} {n : Nat} (iv : Inv cx H s) (q : Q (.str x) H) : Post cx s H Q (.str x t) { s with toks := n } := post_tok iv (by simp [Rep]) q
theorem post_new {a : Addr} {o : AO} {h : Heap} {n : Nat} (i : Inv cx H s) (hk : ∀ b o, s.heap.get? b = some o → h.get? b = some o) (ha : s.heap.get? a = none) (ho : HoldsO cx h a o)
    (q : Q (.ref a) (upd H a o)) : Post cx s H Q (.ref a) { s with heap := h, toks := n } :=
  ⟨.ref a, _, by simp [Rep], i.new hk ha ho, .new ⟨h, n, rfl⟩ hk ha, q⟩
theorem post_grown {v : Value} {p : PV} {h : Heap} {n : Nat} (i : Inv cx H s) (hk : ∀ b o, s.heap.get? b = some o → h.get? b = some o) (r : Rep cx h v p)
    (q : Q p H) : Post cx s H Q v { s with heap := h, toks := n } :=
  ⟨p, H, r, i.grown hk, .grown ⟨h, n, rfl⟩ hk, q⟩
end

theorem get?_size_none (h : Heap) : h.get? h.objs.size = none := by
  cases e : h.get? h.objs.size with
  | none => rfl
  | some o => exact absurd (Heap.lt_size e) (Nat.lt_irrefl _)
theorem Inv.fresh_size {cx : Cx} {H : Hp} {s : Shared} (i : Inv cx H s) : H s.heap.objs.size = none := i.fresh

theorem repL_two {cx : Cx} {h : Heap} {vals : List Value} {a b : PV} (r : RepL cx h vals [a, b]) : ∃ va vb, vals = [va, vb] ∧ Rep cx h va a ∧ Rep cx h vb b := by
  match vals, r with
  | [va, vb], r => simp only [RepL] at r; exact ⟨va, vb, rfl, r.1, r.2.1⟩
  | [], r => simp [RepL] at r
  | [_], r => simp [RepL] at r
  | _ :: _ :: _ :: _, r => simp [RepL] at r
theorem repL_one {cx : Cx} {h : Heap} {vals : List Value} {a : PV} (r : RepL cx h vals [a]) : ∃ va, vals = [va] ∧ Rep cx h va a := by
  match vals, r with
  | [va], r => simp only [RepL] at r; exact ⟨va, rfl, r.1⟩
  | [], r => simp [RepL] at r
  | _ :: _ :: _, r => simp [RepL] at r
theorem repL_three {cx : Cx} {h : Heap} {vals : List Value} {a b c : PV} (r : RepL cx h vals [a, b, c]) : ∃ va vb vc, vals = [va, vb, vc] ∧ Rep cx h va a ∧ Rep cx h vb b ∧ Rep cx h vc c := by
  match vals, r with
  | [va, vb, vc], r => simp only [RepL] at r; exact ⟨va, vb, vc, rfl, r.1, r.2.1, r.2.2.1⟩
  | [], r => simp [RepL] at r
  | [_], r => simp [RepL] at r
  | [_, _], r => simp [RepL] at r
  | _ :: _ :: _ :: _ :: _, r => simp [RepL] at r

theorem SW.two {cx : Cx} {n : Nat} {a b : PV} {t : List Value → Sem Value} {Q : PV → Hp → Prop} {E : Addr → Hp → Prop} {H : Hp}
    (h : ∀ (A : Around) (s : Shared) (va vb : Value), Room n A → A.handled = none → Rep cx s.heap va a → Rep cx s.heap vb b → Inv cx H s →
      wpAny (model cx.prog cx.w) A (t [va, vb]) (Post cx s H Q) (EPost cx s H E) s) : SW cx n [a, b] t Q E H :=
  fun A s vals hr hh hv i => by obtain ⟨va, vb, rfl, r1, r2⟩ := repL_two hv; exact h A s va vb hr hh r1 r2 i

theorem newTuple_post {cx : Cx} {M : Model} {A : Around} {E : Value → Shared → Prop} {s : Shared} {H : Hp} {Q : PV → Hp → Prop} {vs : List Value} {ps : List PV} (i : Inv cx H s) (r : RepL cx s.heap vs ps) (hsz : ps.length ≤ sizeLine) (q : Q (.tup ps) H) :
    wpAny M A (newTuple vs) (Post cx s H Q) E s := by
  have hl := repL_length r
  refine wpAny_newObj_type ?_ (by show vs.toArray.size ≤ sizeLine; rw [List.size_toArray]; omega)
  have hk : ∀ b o, s.heap.get? b = some o → (s.heap.push { cls := .type "tuple", data := .seq vs.toArray }).get? b = some o := fun b o e => Heap.get?_push_of_some _ e
  refine post_grown i hk ?_ q
  simp only [Rep]
  exact ⟨_, vs.toArray, 0, rfl, Heap.get?_push_size _ rfl, by simpa using repL_grown hk r⟩

theorem newList_post {cx : Cx} {M : Model} {A : Around} {E : Value → Shared → Prop} {s : Shared} {H : Hp} {Q : PV → Hp → Prop} {vs : List Value} {ps : List PV} (i : Inv cx H s) (r : RepL cx s.heap vs ps) (hsz : ps.length ≤ sizeLine) (q : ∀ a, H a = none → Q (.ref a) (upd H a (.list ps))) :
    wpAny M A (newList vs) (Post cx s H Q) E s := by
  have hl := repL_length r
  refine wpAny_newObj_type ?_ (by show vs.toArray.size ≤ sizeLine; rw [List.size_toArray]; omega)
  have hk : ∀ b o, s.heap.get? b = some o → (s.heap.push { cls := .type "list", data := .seq vs.toArray }).get? b = some o := fun b o e => Heap.get?_push_of_some _ e
  refine post_new i hk (get?_size_none _) ?_ (q _ i.fresh_size)
  simp only [HoldsO]
  exact ⟨vs.toArray, 0, Heap.get?_push_size _ rfl, by simpa using repL_grown hk r⟩

theorem rep_tup {cx : Cx} {h : Heap} {v : Value} {l : List PV} (r : Rep cx h v (.tup l)) : ∃ a vs n, v = .ref a ∧ h.get? a = some ⟨.type "tuple", none, .seq vs n, #[]⟩ ∧ RepL cx h vs.toList l := by simpa only [Rep] using r
theorem isTup_of {h : Heap} {a : Addr} {vs : Array Value} {n : Nat} (e : h.get? a = some ⟨.type "tuple", none, .seq vs n, #[]⟩) : IsTup h a vs := ⟨_, e, rfl, n, rfl⟩

theorem add_tup_post {cx : Cx} {A : Around} {E : Value → Shared → Prop} {s : Shared} {H : Hp} {Q : PV → Hp → Prop} {va vb : Value} {l l' : List PV} (i : Inv cx H s) (ra : Rep cx s.heap va (.tup l)) (rb : Rep cx s.heap vb (.tup l'))
    (hsz : l.length + l'.length ≤ sizeLine) (q : Q (.tup (l ++ l')) H) : wpAny (model cx.prog cx.w) A (binaryOp .Add va vb) (Post cx s H Q) E s := by
  obtain ⟨t, vs, n, rfl, ho, r⟩ := rep_tup ra
  obtain ⟨b, ws, n2, rfl, ho2, r2⟩ := rep_tup rb
  have e1 := repL_length r; have e2 := repL_length r2
  simp only [Array.length_toList] at e1 e2
  by_cases hv : vs.toList = []
  · refine concat_meets ⟨_, ho, rfl⟩ ⟨_, ho2, rfl⟩ noFill_tuple_add seq_tuple_add PySem.F.slot_tuple_add PySem.F.entry_tuple_add (PySem.F.args_tuple_add_2 _ _)
      (tuple_addW0 t b vs ws n n2 _ _ _ _ (by simpa using hv)) ⟨ho, ho2, ?_⟩
    have : l = [] := by rw [hv] at r; cases l with | nil => rfl | cons _ _ => simp [RepL] at r
    subst this
    exact post_here i rb (by simpa using q)
  · by_cases hw : ws.toList = []
    · refine concat_meets ⟨_, ho, rfl⟩ ⟨_, ho2, rfl⟩ noFill_tuple_add seq_tuple_add PySem.F.slot_tuple_add PySem.F.entry_tuple_add (PySem.F.args_tuple_add_2 _ _)
        (tuple_addW1 t b vs ws n n2 _ _ _ _ (by simpa using hv) (by simpa using hw)) ⟨ho, ho2, ?_⟩
      have : l' = [] := by rw [hw] at r2; cases l' with | nil => rfl | cons _ _ => simp [RepL] at r2
      subst this
      exact post_here i ra (by simpa using q)
    · refine concat_meets ⟨_, ho, rfl⟩ ⟨_, ho2, rfl⟩ noFill_tuple_add seq_tuple_add PySem.F.slot_tuple_add PySem.F.entry_tuple_add (PySem.F.args_tuple_add_2 _ _)
        (tuple_addW2 t b vs ws n n2 _ _ _ _ (by simpa using hv) (by simpa using hw) (by omega)) ⟨ho, ho2, ?_⟩
      have hk : ∀ b o, s.heap.get? b = some o → (s.heap.push { cls := .type "tuple", data := .seq (vs ++ ws) }).get? b = some o := fun b o e => Heap.get?_push_of_some _ e
      refine post_grown i hk ?_ q
      simp only [Rep]
      exact ⟨_, vs ++ ws, 0, rfl, Heap.get?_push_size _ rfl, by simpa using repL_grown hk (repL_append r r2)⟩

section
variable {cx : Cx} {n : Nat} {a b : PV} {Q : PV → Hp → Prop} {E : Addr → Hp → Prop} {H : Hp}
theorem binII_or {k : Int → Int → Prop} {d : Prop} (h : binII a b k d) : (∃ x y, a = .int x ∧ b = .int y ∧ k x y) ∨ d := by
  cases a with
  | int x =>
    cases b with
    | int y => exact .inl ⟨x, y, rfl, rfl, h⟩
    | _ => exact .inr h
  | _ => exact .inr h
theorem cmpSS_or {k : Str → Str → Prop} {d : Prop} (h : cmpSS a b k d) : (∃ x y, a = .str x ∧ b = .str y ∧ k x y) ∨ d := by
  cases a with
  | str x =>
    cases b with
    | str y => exact .inl ⟨x, y, rfl, rfl, h⟩
    | _ => exact .inr h
  | _ => exact .inr h
theorem cmpBB_or {k : Bool → Bool → Prop} {d : Prop} (h : cmpBB a b k d) : (∃ x y, a = .bool x ∧ b = .bool y ∧ k x y) ∨ d := by
  cases a with
  | bool x =>
    cases b with
    | bool y => exact .inl ⟨x, y, rfl, rfl, h⟩
    | _ => exact .inr h
  | _ => exact .inr h
theorem cmpNone_or {neg : Bool} {d : Prop} (h : cmpNone neg a b Q H d) : (b = .none ∧ ∃ r, isNone? a = some r ∧ Q (.bool (r != neg)) H) ∨ d := by
  cases b with
  | none =>
    cases a with
    | g x => exact .inr h
    | bi x => exact .inr h
    | _ => exact .inl ⟨rfl, _, rfl, h⟩
  | _ => exact .inr h
theorem rep_isNone {h : Heap} {v : Value} {r : Bool} (hr : isNone? a = some r) (hv : Rep cx h v a) : if r = true then v = .none else v ≠ .none := by
  cases a <;> simp only [isNone?, Option.some.injEq, reduceCtorEq] at hr <;> subst hr <;> simp only [Rep] at hv
  · simpa using hv
  · subst hv; simp
  · obtain ⟨t, rfl⟩ := hv; simp
  · obtain ⟨t, rfl⟩ := hv; simp
  · obtain ⟨t, _, _, rfl, _⟩ := hv; simp
  · subst hv; simp
theorem two_ints {T : List Value → Sem Value} {x y : Int} (f : ∀ A s t u, Inv cx H s → wpAny (model cx.prog cx.w) A (T [.int x t, .int y u]) (Post cx s H Q) (EPost cx s H E) s) : SW cx n [.int x, .int y] T Q E H :=
  SW.two fun A s va vb hr hh ra rb i => by
    obtain ⟨t, rfl⟩ := (by simpa only [Rep] using ra : ∃ t, va = _)
    obtain ⟨u, rfl⟩ := (by simpa only [Rep] using rb : ∃ t, vb = _)
    exact f A s t u i
theorem two_strs {T : List Value → Sem Value} {x y : Str} (f : ∀ A s t u, Inv cx H s → wpAny (model cx.prog cx.w) A (T [.str x t, .str y u]) (Post cx s H Q) (EPost cx s H E) s) : SW cx n [.str x, .str y] T Q E H :=
  SW.two fun A s va vb hr hh ra rb i => by
    obtain ⟨t, rfl⟩ := (by simpa only [Rep] using ra : ∃ t, va = _)
    obtain ⟨u, rfl⟩ := (by simpa only [Rep] using rb : ∃ t, vb = _)
    exact f A s t u i
theorem binAdd_sound (h : binAdd a b Q H (BinW cx n .Add a b Q E H)) : BinW cx n .Add a b Q E H := by
  cases a with
  | int x =>
    cases b with
    | int y => exact two_ints fun A s t u i => add_int (post_int i h)
    | _ => exact h
  | str x =>
    cases b with
    | str y => exact two_strs fun A s t u i => add_str (fun t' tk => post_str i h.2) h.1
    | _ => exact h
  | tup x =>
    cases b with
    | tup y => exact SW.two fun A s va vb hr hh ra rb i => add_tup_post i ra rb h.1 h.2
    | _ => exact h
  | _ => exact h
theorem binA_sound {op : Operator} (h : binA cx n op a b Q E H) : BinW cx n op a b Q E H := by
  cases op with
  | Add => exact binAdd_sound h
  | Sub =>
    rcases binII_or h with ⟨x, y, rfl, rfl, h⟩ | h
    · exact two_ints fun A s t u i => sub_int (post_int i h)
    · exact h
  | Mult =>
    rcases binII_or h with ⟨x, y, rfl, rfl, h⟩ | h
    · exact two_ints fun A s t u i => mul_int (post_int i h.2) h.1
    · exact h
  | FloorDiv =>
    rcases binII_or h with ⟨x, y, rfl, rfl, h⟩ | h
    · refine two_ints fun A s t u i => floordiv_int (by omega) ?_ (.inl (PyProof.noPylong_of_log2 ?_))
      · rw [Int.fdiv_eq_ediv_of_nonneg _ (by omega)]; exact post_int i h.2
      · have h1 : y.natAbs < 2 ^ 62 := by omega
        have h2 : y.natAbs ≠ 0 := by omega
        exact Nat.lt_trans ((Nat.log2_lt h2).mpr h1) (by decide)
    · exact h
  | Mod =>
    rcases binII_or h with ⟨x, y, rfl, rfl, h⟩ | h
    · refine two_ints fun A s t u i => mod_int (by omega) ?_
      rw [Int.fmod_eq_emod_of_nonneg _ (by omega)]; exact post_int i h.2
    · exact h
  | Pow =>
    rcases binII_or h with ⟨x, y, rfl, rfl, h⟩ | h
    · exact two_ints fun A s t u i => pow_int_small (by omega) (by omega) (by omega) (post_int i h.2)
    · exact h
  | _ => exact h

theorem cmpA_sound {op : CmpOp} (h : cmpA cx n op a b Q E H) : CmpW cx n op a b Q E H := by
  cases op with
  | Lt =>
    rcases binII_or h with ⟨x, y, rfl, rfl, h⟩ | h
    · exact two_ints fun A s t u i => lt_int (post_bool i h)
    · exact h
  | LtE =>
    rcases binII_or h with ⟨x, y, rfl, rfl, h⟩ | h
    · exact two_ints fun A s t u i => le_int (post_bool i h)
    · exact h
  | Gt =>
    rcases binII_or h with ⟨x, y, rfl, rfl, h⟩ | h
    · exact two_ints fun A s t u i => gt_int (post_bool i h)
    · exact h
  | GtE =>
    rcases binII_or h with ⟨x, y, rfl, rfl, h⟩ | h
    · exact two_ints fun A s t u i => ge_int (post_bool i h)
    · exact h
  | Eq =>
    rcases binII_or h with ⟨x, y, rfl, rfl, h⟩ | h
    · refine two_ints fun A s t u i => eq_int ?_
      rw [show (x == y) = decide (x = y) from rfl]
      exact post_bool i h
    · rcases cmpSS_or h with ⟨x, y, rfl, rfl, h⟩ | h
      · refine two_strs fun A s t u i => eq_str ?_
        rw [show (x == y) = decide (x = y) from by by_cases e : x = y <;> simp [e]]
        exact post_bool i h
      · exact h
  | NotEq =>
    rcases binII_or h with ⟨x, y, rfl, rfl, h⟩ | h
    · refine two_ints fun A s t u i => ne_int ?_
      rw [show (x != y) = decide (x ≠ y) from by simp [bne, BEq.beq]]
      exact post_bool i h
    · rcases cmpSS_or h with ⟨x, y, rfl, rfl, h⟩ | h
      · refine two_strs fun A s t u i => ne_str ?_
        rw [show (x != y) = decide (x ≠ y) from by by_cases e : x = y <;> simp [e]]
        exact post_bool i h
      · exact h
  | Is =>
    rcases cmpNone_or h with ⟨rfl, r, hr, h⟩ | h
    · refine SW.two fun A s va vb _ hh ra rb i => ?_
      have hn := rep_isNone hr ra
      simp only [Rep] at rb
      subst rb
      cases r with
      | true => simp at hn; subst hn; exact is_none_none (post_bool i h)
      | false => simp at hn; exact is_none_ne hn (post_bool i h)
    · exact h
  | IsNot =>
    rcases cmpNone_or h with ⟨rfl, r, hr, h⟩ | h
    · refine SW.two fun A s va vb _ hh ra rb i => ?_
      have hn := rep_isNone hr ra
      simp only [Rep] at rb
      subst rb
      cases r with
      | true => simp at hn; subst hn; exact isnot_none_none (post_bool i h)
      | false => simp at hn; exact isnot_none_ne hn (post_bool i h)
    · rcases cmpBB_or h with ⟨x, y, rfl, rfl, h⟩ | h
      · refine SW.two fun A s va vb _ hh ra rb i => ?_
        simp only [Rep] at ra rb
        subst ra rb; exact isnot_bool (post_bool i h)
      · exact h
  | In => exact h
  | NotIn => exact h
end

end Mine
end

/-! M5 -/
section
set_option autoImplicit false
namespace Mine
open PySem PyProof.Rows

theorem idx_spec {α : Type} {l : List α} {k : Int} {x : α} (h : idx l k = some x) : ∃ j, seqIndex? k l.length = some j ∧ l[j]? = some x ∧ j < l.length := by
  unfold idx at h
  unfold seqIndex?
  split at h
  · rename_i h0
    have hlt : k.toNat < l.length := (List.getElem?_eq_some_iff.mp h).1
    refine ⟨k.toNat, ?_, h, hlt⟩
    simp only [show ¬ k < 0 by omega, if_false]
    simp only [h0, decide_true, Bool.true_and, show k < (l.length : Int) by omega, decide_true, if_true]
  · split at h
    · rename_i h0 h1
      have hlt : (k + l.length).toNat < l.length := (List.getElem?_eq_some_iff.mp h).1
      refine ⟨(k + l.length).toNat, ?_, h, hlt⟩
      simp only [show k < 0 by omega, if_true]
      simp only [h1, decide_true, Bool.true_and, show k + (l.length : Int) < (l.length : Int) by omega, decide_true, if_true]
    · cases h

theorem idx_rep {cx : Cx} {h : Heap} {vs : List Value} {ps : List PV} {k : Int} {p : PV} (r : RepL cx h vs ps) (e : idx ps k = some p) :
    ∃ j v, seqIndex? k vs.length = some j ∧ vs[j]? = some v ∧ Rep cx h v p := by
  obtain ⟨j, h1, h2, h3⟩ := idx_spec e
  obtain ⟨v, hv, rv⟩ := repL_get r h2
  exact ⟨j, v, by rw [repL_length r]; exact h1, hv, rv⟩

theorem seqIndex?_cases {k : Int} {n j : Nat} (h : seqIndex? k n = some j) : (0 ≤ k ∧ j = k.toNat) ∨ (k < 0 ∧ -(n : Int) ≤ k ∧ j = (k + n).toNat) := by
  unfold seqIndex? at h
  split at h
  · rename_i h0
    dsimp only at h
    split at h
    · rename_i h1
      simp only [Bool.and_eq_true, decide_eq_true_eq] at h1
      exact .inr ⟨h0, by omega, by injection h with h; exact h.symm⟩
    · cases h
  · rename_i h0
    dsimp only at h
    split at h
    · exact .inl ⟨by omega, by injection h with h; exact h.symm⟩
    · cases h

section
variable {cx : Cx} {A : Around} {E : Value → Shared → Prop} {s : Shared} {H : Hp} {Q : PV → Hp → Prop} {k : Int} {u : Tok} {p : PV}

theorem item_tup {v : Value} {l : List PV} (i : Inv cx H s) (r : Rep cx s.heap v (.tup l)) (hk : -(2 ^ 62) < k ∧ k < 2 ^ 62) (e : idx l k = some p) (q : Q p H) :
    wpAny (model cx.prog cx.w) A (getItem v (.int k u)) (Post cx s H Q) E s := by
  obtain ⟨a, vs, n, rfl, ho, rl⟩ := rep_tup r
  obtain ⟨j, w, h1, h2, rv⟩ := idx_rep rl e
  exact getItem_tuple (isTup_of ho) (by omega) (by omega) (by simpa using h1) (by simpa using h2) (post_here i rv q)

theorem item_list {a : Addr} {vs : Array Value} {l : List PV} (i : Inv cx H s) (hl : s.heap.IsList a vs) (r : RepL cx s.heap vs.toList l) (hk : -(2 ^ 62) < k ∧ k < 2 ^ 62) (e : idx l k = some p) (q : Q p H) :
    wpAny (model cx.prog cx.w) A (getItem (.ref a) (.int k u)) (Post cx s H Q) E s := by
  obtain ⟨j, w, h1, h2, rv⟩ := idx_rep r e
  rcases seqIndex?_cases h1 with ⟨h0, rfl⟩ | ⟨h0, h3, rfl⟩
  · exact wpAny_getItem_list hl h0 (by omega) (by simpa using h2) (post_here i rv q)
  · simp only [Array.length_toList] at h3 h2
    exact wpAny_getItem_list_neg hl h0 h3 (by omega) (by simpa using h2) (post_here i rv q)

theorem item_str {x : Str} {t : Tok} {c : Nat} (i : Inv cx H s) (hk : -(2 ^ 62) < k ∧ k < 2 ^ 62) (e : idx x.cps.toList k = some c) (q : Q (chr c) H) :
    wpAny (model cx.prog cx.w) A (getItem (.str x t) (.int k u)) (Post cx s H Q) E s := by
  obtain ⟨j, h1, h2, h3⟩ := idx_spec e
  refine getItem_str (c := c) ?_ ?_ (post_str i q)
  · simp only [Bool.or_eq_false_iff, decide_eq_false_iff_not]; omega
  · simp only [Array.length_toList] at h1
    show (seqIndex? k x.cps.size).bind _ = _
    rw [h1]
    simpa using h2

/-- the slice object that is made on the way -/
theorem slTo_eq {α : Type} (l : List α) (k : Int) : slTo l k = (l.drop 0).take (clipAt l.length k) := by
  unfold slTo clipAt
  split
  · rename_i h
    simp only [show ¬ k < 0 by omega, if_false, List.drop_zero]
    have : (max 0 (min k (l.length : Int))).toNat = min k.toNat l.length := by omega
    rw [this]
    by_cases h' : k.toNat ≤ l.length
    · rw [Nat.min_eq_left h']
    · rw [Nat.min_eq_right (by omega), List.take_of_length_le (Nat.le_refl _), List.take_of_length_le (by omega)]
  · rename_i h
    simp only [show k < 0 by omega, if_true, List.drop_zero]
    congr 1
    omega
theorem slFrom_eq {α : Type} (l : List α) (k : Int) : slFrom l k = l.drop (clipAt l.length k) := by
  unfold slFrom clipAt
  split
  · rename_i h
    simp only [show ¬ k < 0 by omega, if_false]
    have : (max 0 (min k (l.length : Int))).toNat = min k.toNat l.length := by omega
    rw [this]
    by_cases h' : k.toNat ≤ l.length
    · rw [Nat.min_eq_left h']
    · rw [Nat.min_eq_right (by omega), List.drop_of_length_le (Nat.le_refl _), List.drop_of_length_le (by omega)]
  · rename_i h
    simp only [show k < 0 by omega, if_true]
    congr 1
    omega

theorem pick_to (items : Array Value) (k : Int) : (slicePick items none (some k) none).toList = slTo items.toList k := by
  rw [slicePick_plain, slTo_eq]
  simp
theorem pick_from' (items : Array Value) (k : Int) : (slicePick items (some k) none none).toList = slFrom items.toList k := by
  rw [slicePick_plain, slFrom_eq]
  simp
  exact List.take_of_length_le (by simp)
theorem repL_slTo {h : Heap} {vs : List Value} {ps : List PV} (r : RepL cx h vs ps) (k : Int) : RepL cx h (slTo vs k) (slTo ps k) := by
  unfold slTo
  rw [repL_length r]
  split <;> exact repL_take _ r
theorem repL_slFrom {h : Heap} {vs : List Value} {ps : List PV} (r : RepL cx h vs ps) (k : Int) : RepL cx h (slFrom vs k) (slFrom ps k) := by
  unfold slFrom
  rw [repL_length r]
  split <;> exact repL_drop _ r
theorem slTo_len {α : Type} (l : List α) (k : Int) : (slTo l k).length ≤ l.length := by unfold slTo; split <;> simp <;> omega
theorem slFrom_len {α : Type} (l : List α) (k : Int) : (slFrom l k).length ≤ l.length := by unfold slFrom; split <;> simp

theorem sl_list {a sl : Addr} {vs : Array Value} {n : Nat} {l l' : List PV} {vl vu : Value} {lo hi : Option Int} (i : Inv cx H s) (ho : s.heap.get? a = some ⟨.type "list", none, .seq vs n, #[]⟩)
    (hs : s.heap.IsSliceOf sl vl vu .none) (pl : IsPart vl lo) (pu : IsPart vu hi) (r : RepL cx s.heap (slicePick vs lo hi none).toList l') (hz : vs.size ≤ sizeLine) (q : ∀ b, H b = none → Q (.ref b) (upd H b (.list l'))) :
    wpAny (model cx.prog cx.w) A (getItem (.ref a) (.ref sl)) (Post cx s H Q) E s := by
  have hl : s.heap.IsList a vs := ⟨_, ho, rfl, n, rfl⟩
  refine wpAny_getItem_list_slice hl hs pl pu .none (by simp) ?_ hz
  have hk : ∀ b o, s.heap.get? b = some o → (s.heap.push { cls := .type "list", data := .seq (slicePick vs lo hi none) }).get? b = some o := fun b o e => Heap.get?_push_of_some _ e
  refine post_new i hk (get?_size_none _) ?_ (q _ i.fresh_size)
  simp only [HoldsO]
  exact ⟨_, 0, Heap.get?_push_size _ rfl, repL_grown hk r⟩
end

theorem strIdx_to (n : Nat) (k : Int) : Builtin.Str.strSliceIndices none (some k) 1 n = (List.range (clipAt n k)).map (0 + ·) := by
  unfold Builtin.Str.strSliceIndices
  simp only [show (1 : Int) > 0 by decide, if_true]
  have := sliceRange_one 0 (clipAt n k)
  simp only [Nat.sub_zero] at this
  rw [← this]
  congr 1
  exact (clipAt_cast n k).symm
theorem strIdx_from (n : Nat) (k : Int) : Builtin.Str.strSliceIndices (some k) none 1 n = (List.range (n - clipAt n k)).map (clipAt n k + ·) := by
  unfold Builtin.Str.strSliceIndices
  simp only [show (1 : Int) > 0 by decide, if_true]
  rw [← sliceRange_one (clipAt n k) n]
  congr 1
  exact (clipAt_cast n k).symm
theorem clipAt_le (n : Nat) (k : Int) : clipAt n k ≤ n := by unfold clipAt; omega

section
variable {cx : Cx} {A : Around} {E : Value → Shared → Prop} {s : Shared} {H : Hp} {Q : PV → Hp → Prop} {k : Int} {u : Tok} {p : PV}

theorem sl_str_to {x : Str} {t : Tok} {a : Addr} (i : Inv cx H s) (hs : s.heap.IsSlice a none (some (k, u)) none) (hz : x.length ≤ sizeLine) (q : Q (.str ⟨(slTo x.cps.toList k).toArray⟩) H) :
    wpAny (model cx.prog cx.w) A (getItem (.str x t) (.ref a)) (Post cx s H Q) E s := by
  refine wpAny_getItem_str_slice hs rfl ?_
  have e1 : slicePicked x none (some (k, u)) none = (List.range (clipAt x.length k)).map (0 + ·) := strIdx_to _ _
  have e2 : ((slicePicked x none (some (k, u)) none).filterMap (x.cps[·]?)) = slTo x.cps.toList k := by
    rw [e1, pick_run, slTo_eq]; rfl
  unfold sliceMade
  rw [e2]
  split
  · rename_i hc
    simp only [Option.map_none, Option.getD_none, beq_self_eq_true, Bool.true_and, beq_iff_eq, e1, List.length_map, List.length_range] at hc
    have : slTo x.cps.toList k = x.cps.toList := by
      rw [slTo_eq, List.drop_zero, show x.cps.toList.length = x.length from rfl, hc]
      exact List.take_of_length_le (by show x.cps.toList.length ≤ x.length; exact Nat.le_refl _)
    rw [this] at q
    exact post_here i (by simp [Rep]) q
  · have hl : (slTo x.cps.toList k).length ≤ x.length := slTo_len _ _
    refine ⟨by show (slTo x.cps.toList k).toArray.size ≤ _; rw [List.size_toArray]; omega, post_str i q⟩

theorem sl_str_from {x : Str} {t : Tok} {a : Addr} (i : Inv cx H s) (hs : s.heap.IsSlice a (some (k, u)) none none) (hz : x.length ≤ sizeLine) (q : Q (.str ⟨(slFrom x.cps.toList k).toArray⟩) H) :
    wpAny (model cx.prog cx.w) A (getItem (.str x t) (.ref a)) (Post cx s H Q) E s := by
  refine wpAny_getItem_str_slice hs rfl ?_
  have e1 : slicePicked x (some (k, u)) none none = (List.range (x.length - clipAt x.length k)).map (clipAt x.length k + ·) := strIdx_from _ _
  have e2 : ((slicePicked x (some (k, u)) none none).filterMap (x.cps[·]?)) = slFrom x.cps.toList k := by
    rw [e1, pick_run, slFrom_eq]
    exact List.take_of_length_le (by rw [List.length_drop]; exact Nat.le_refl _)
  unfold sliceMade
  rw [e2]
  split
  · rename_i hc
    simp only [Option.map_none, Option.getD_none, beq_self_eq_true, Bool.true_and, beq_iff_eq, e1, List.length_map, List.length_range] at hc
    have h0 : slFrom x.cps.toList k = x.cps.toList := by
      rw [slFrom_eq, show x.cps.toList.length = x.length from rfl]
      have := clipAt_le x.length k
      have h1 : clipAt x.length k = 0 ∨ x.length = 0 := by omega
      rcases h1 with h1 | h1
      · rw [h1, List.drop_zero]
      · have : x.cps.toList = [] := List.eq_nil_of_length_eq_zero h1
        rw [this]; simp
    rw [h0] at q
    exact post_here i (by simp [Rep]) q
  · have hl : (slFrom x.cps.toList k).length ≤ x.length := slFrom_len _ _
    refine ⟨by show (slFrom x.cps.toList k).toArray.size ≤ _; rw [List.size_toArray]; omega, post_str i q⟩
end

end Mine
end

/-! M5b -/
section
set_option autoImplicit false
namespace Mine
open PySem PyProof.Rows

theorem adj_to (k : Int) (n : Nat) : Builtin.Slice.sliceAdjust none (some k) 1 (n : Int) = (0, (clipAt n k : Int)) := by
  unfold Builtin.Slice.sliceAdjust
  simp only [show ¬ ((1 : Int) < 0) by omega, if_false]
  congr 1
  rw [clipAt_cast]
  split <;> omega
theorem adj_from (k : Int) (n : Nat) : Builtin.Slice.sliceAdjust (some k) none 1 (n : Int) = ((clipAt n k : Int), (n : Int)) := by
  unfold Builtin.Slice.sliceAdjust
  simp only [show ¬ ((1 : Int) < 0) by omega, if_false]
  congr 1
  rw [clipAt_cast]
  split <;> omega

section
variable {prog : Program} {w : World} {A : Around} {E : Value → Shared → Prop} {s : Shared}
theorem tup_slice {t sl : Addr} {items : Array Value} {vl vu : Value} {lo hi : Nat} {Q : Value → Shared → Prop} (ht : IsTup s.heap t items)
    (hTs : s.TypeIs (.ref sl) "slice")
    (happ : ∀ Q' : Int × Int × Nat → Shared → Prop, Q' ((lo : Int), 1, hi - lo) s → wpAny (model prog w) A.in1 (Builtin.Slice.sliceApplied (.ref sl) (pure (items.size : Int))) Q' E s)
    (hhi : hi ≤ items.size)
    (hw : lo = 0 → hi = items.size → Q (.ref t) s)
    (h : Q (.ref s.heap.objs.size) { s with heap := s.heap.push { cls := .type "tuple", data := .seq ((items.toList.drop lo).take (hi - lo)).toArray } })
    (hsz : items.size ≤ sizeLine) : wpAny (model prog w) A (getItem (.ref t) (.ref sl)) Q E s := by
  have hdrop : sizeOk (.seq ((items.toList.drop lo).take (hi - lo)).toArray) := by
    show ((items.toList.drop lo).take (hi - lo)).toArray.size ≤ sizeLine
    rw [List.size_toArray, List.length_take, List.length_drop, Array.length_toList]
    omega
  unfold getItem
  try with_reducible refine wpAny_holding ?_
  first | refine wpAny_bind (wpAny_pure ?_) | skip
  refine wpAny_bind (wpAny_sequenceKey ht.typeIs (by decide) ?_)
  refine wpAny_bind (wpAny_callSpecial?_slot (name := Str.ofString "__getitem__") ht.typeIs slot_tuple_getitem
    (wpAny_call_entry slot_tuple_getitem ht.typeIs entry_tuple_getitem ?_ (args_tuple_getitem _ _)))
  show wpAny _ _ (Builtin.Tuple.tupleItemsOf (.ref t) >>= _) _ _ s
  refine wpAny_bind (tupleItemsOf_ ht ?_)
  refine wpAny_bind (wpAny_typeOf hTs ?_)
  rw [if_pos (by decide)]
  refine wpAny_bind (happ _ ?_)
  have pick : ((List.range (hi - lo)).filterMap fun (k : Nat) => items[((lo : Int) + (k : Int) * 1).toNat]?).toArray = ((items.toList.drop lo).take (hi - lo)).toArray := by
    have e : (fun (k : Nat) => items[((lo : Int) + (k : Int) * 1).toNat]?) = fun k => items[lo + k]? := by
      funext k
      have : ((lo : Int) + (k : Int) * 1).toNat = lo + k := by omega
      rw [this]
    rw [e]
    have := pick_run items lo (hi - lo)
    rw [List.filterMap_map] at this
    have e2 : ((fun x => items[x]?) ∘ fun x => lo + x) = fun k => items[lo + k]? := rfl
    rw [e2] at this
    rw [this]
  show wpAny _ _ (if ((lo : Int) == 0 && (1 : Int) == 1 && (hi - lo) == items.size) = true then _ else _) _ _ s
  split
  · rename_i hc
    simp only [Bool.and_eq_true, beq_iff_eq] at hc
    refine wpAny_bind ?_
    unfold Builtin.Tuple.tupleIsExact
    refine wpAny_bind (wpAny_typeOf ht.typeIs ?_)
    refine wpAny_pure ?_
    rw [if_pos (by decide)]
    refine wpAny_bind (wpAny_rule ?_)
    exact wpAny_pure ⟨_, rfl, wpAny_pure (hw (by omega) (by omega))⟩
  · rw [pick]
    first
      | exact wpAny_bind (m := Builtin.Tuple.tupleExact _) (wpAny_newObj_type (wpAny_pure ⟨_, rfl, wpAny_pure h⟩) hdrop)
      | exact wpAny_bind (m := Builtin.Tuple.tupleExact _) (wpAny_newObj_type (wpAny_bind (wpAny_pure (wpAny_pure ⟨_, rfl, wpAny_pure h⟩))) hdrop)
      | exact wpAny_bind (wpAny_bind (m := Builtin.Tuple.tupleExact _) (wpAny_newObj_type (wpAny_pure (wpAny_pure ⟨_, rfl, wpAny_pure h⟩)) hdrop))
      | exact wpAny_bind (wpAny_bind (m := Builtin.Tuple.tupleExact _) (wpAny_newObj_type (wpAny_pure ⟨_, rfl, wpAny_pure h⟩) hdrop))

theorem applied_to {sl : Addr} {k : Int} {n : Nat} {u : Tok} {Q : Int × Int × Nat → Shared → Prop} (hs : s.heap.IsSliceOf sl .none (.int k u) .none) (h : Q (((0 : Nat) : Int), 1, clipAt n k - 0) s) :
    wpAny (model prog w) A (Builtin.Slice.sliceApplied (.ref sl) (pure (n : Int))) Q E s := by
  obtain ⟨os, hos, hcs, hds⟩ := id hs
  unfold Builtin.Slice.sliceApplied Builtin.Slice.sliceFields
  refine wpAny_bind (wpAny_bind (wpAny_field hos hds (x := .none) rfl (wpAny_bind (wpAny_field hos hds (x := .int k u) rfl (wpAny_bind (wpAny_field hos hds (x := .none) rfl (wpAny_pure ?_)))))))
  refine wpAny_bind (slicePart_none ?_)
  show wpAny _ _ (if ((1 : Int) == 0) = true then _ else _) _ _ s
  rw [if_neg (by decide)]
  refine wpAny_bind (slicePart_none (wpAny_bind (slicePart_int (wpAny_bind (wpAny_pure ?_)))))
  show wpAny _ _ (match Builtin.Slice.sliceAdjust none (some k) 1 (n : Int) with | (lo, hi) => pure (lo, (1 : Int), Builtin.Slice.slicePlaces lo hi 1)) _ _ s
  rw [adj_to]
  show wpAny _ _ (pure ((0 : Int), (1 : Int), Builtin.Slice.slicePlaces ((0 : Nat) : Int) (clipAt n k : Int) 1)) _ _ s
  rw [places_from 0 (clipAt n k) (Nat.zero_le _)]
  exact wpAny_pure h
theorem applied_from {sl : Addr} {k : Int} {n : Nat} {u : Tok} {Q : Int × Int × Nat → Shared → Prop} (hs : s.heap.IsSliceOf sl (.int k u) .none .none) (h : Q ((clipAt n k : Int), 1, n - clipAt n k) s) :
    wpAny (model prog w) A (Builtin.Slice.sliceApplied (.ref sl) (pure (n : Int))) Q E s := by
  obtain ⟨os, hos, hcs, hds⟩ := id hs
  unfold Builtin.Slice.sliceApplied Builtin.Slice.sliceFields
  refine wpAny_bind (wpAny_bind (wpAny_field hos hds (x := .int k u) rfl (wpAny_bind (wpAny_field hos hds (x := .none) rfl (wpAny_bind (wpAny_field hos hds (x := .none) rfl (wpAny_pure ?_)))))))
  refine wpAny_bind (slicePart_none ?_)
  show wpAny _ _ (if ((1 : Int) == 0) = true then _ else _) _ _ s
  rw [if_neg (by decide)]
  refine wpAny_bind (slicePart_int (wpAny_bind (slicePart_none (wpAny_bind (wpAny_pure ?_)))))
  show wpAny _ _ (match Builtin.Slice.sliceAdjust (some k) none 1 (n : Int) with | (lo, hi) => pure (lo, (1 : Int), Builtin.Slice.slicePlaces lo hi 1)) _ _ s
  rw [adj_from]
  show wpAny _ _ (pure ((clipAt n k : Int), (1 : Int), Builtin.Slice.slicePlaces (clipAt n k : Int) (n : Int) 1)) _ _ s
  rw [places_from (clipAt n k) n (clipAt_le _ _)]
  exact wpAny_pure h
end

section
variable {cx : Cx} {A : Around} {E : Value → Shared → Prop} {s : Shared} {H : Hp} {Q : PV → Hp → Prop} {k : Int} {u : Tok} {p : PV}

theorem sl_tup_to {v : Value} {sl : Addr} {l : List PV} (i : Inv cx H s) (r : Rep cx s.heap v (.tup l)) (hs : s.heap.IsSliceOf sl .none (.int k u) .none) (hz : l.length ≤ sizeLine) (q : Q (.tup (slTo l k)) H) :
    wpAny (model cx.prog cx.w) A (getItem v (.ref sl)) (Post cx s H Q) E s := by
  obtain ⟨a, vs, n, rfl, ho, rl⟩ := rep_tup r
  have hlen := repL_length rl
  simp only [Array.length_toList] at hlen
  refine tup_slice (lo := 0) (hi := clipAt vs.size k) (vl := .none) (vu := .none) (isTup_of ho) (let ⟨o, h1, h2, _⟩ := hs; ⟨o, h1, h2⟩) (fun Q' hq => applied_to hs hq) (clipAt_le _ _) ?_ ?_ (by omega)
  · intro _ he
    refine post_here i r ?_
    have : slTo l k = l := by rw [slTo_eq, List.drop_zero, ← hlen, he]; exact List.take_of_length_le (by omega)
    rw [this] at q; exact q
  · have hk : ∀ b o, s.heap.get? b = some o → (s.heap.push { cls := .type "tuple", data := .seq ((vs.toList.drop 0).take (clipAt vs.size k - 0)).toArray }).get? b = some o := fun b o e => Heap.get?_push_of_some _ e
    refine post_grown i hk ?_ q
    simp only [Rep]
    refine ⟨_, _, 0, rfl, Heap.get?_push_size _ rfl, ?_⟩
    have := repL_slTo rl k
    rw [slTo_eq vs.toList] at this
    simpa using repL_grown hk this

theorem sl_tup_from {v : Value} {sl : Addr} {l : List PV} (i : Inv cx H s) (r : Rep cx s.heap v (.tup l)) (hs : s.heap.IsSliceOf sl (.int k u) .none .none) (hz : l.length ≤ sizeLine) (q : Q (.tup (slFrom l k)) H) :
    wpAny (model cx.prog cx.w) A (getItem v (.ref sl)) (Post cx s H Q) E s := by
  obtain ⟨a, vs, n, rfl, ho, rl⟩ := rep_tup r
  have hlen := repL_length rl
  simp only [Array.length_toList] at hlen
  have hle := clipAt_le vs.size k
  refine tup_slice (lo := clipAt vs.size k) (hi := vs.size) (vl := .none) (vu := .none) (isTup_of ho) (let ⟨o, h1, h2, _⟩ := hs; ⟨o, h1, h2⟩) (fun Q' hq => applied_from hs hq) (Nat.le_refl _) ?_ ?_ (by omega)
  · intro he _
    refine post_here i r ?_
    have : slFrom l k = l := by rw [slFrom_eq, ← hlen, he, List.drop_zero]
    rw [this] at q; exact q
  · have hk : ∀ b o, s.heap.get? b = some o → (s.heap.push { cls := .type "tuple", data := .seq ((vs.toList.drop (clipAt vs.size k)).take (vs.size - clipAt vs.size k)).toArray }).get? b = some o := fun b o e => Heap.get?_push_of_some _ e
    refine post_grown i hk ?_ q
    simp only [Rep]
    refine ⟨_, _, 0, rfl, Heap.get?_push_size _ rfl, ?_⟩
    have := repL_slFrom rl k
    rw [slFrom_eq vs.toList] at this
    have e : (vs.toList.drop (clipAt vs.size k)).take (vs.size - clipAt vs.size k) = vs.toList.drop (clipAt vs.size k) := List.take_of_length_le (by simp)
    rw [show vs.toList.length = vs.size from rfl, ← e] at this
    simpa using repL_grown hk this
end

end Mine
end

/-! M6 -/
section
set_option autoImplicit false
namespace Mine
open PySem PyProof.Rows

/-- how a callee is held while it runs can be told -/
noncomputable def KeepOk (cx : Cx) (v : Value) : Prop := ∀ (A : Around) (E : Value → Shared → Prop) (s : Shared) (Q : Keeper → Shared → Prop), cx.In s.heap → (∀ k, Q k s) → wpAny (model cx.prog cx.w) A (keeperOf v) Q E s
noncomputable def bTypes : List (Str × String) := [("list", "list"), ("enumerate", "enumerate"), ("range", "range")]

structure CxOk (cx : Cx) : Prop where
  types : ∀ x ∈ bTypes, x.1 ∈ cx.globs → cx.G x.1 = some (.type x.2)
  keeps : ∀ x v, x ∈ cx.globs → cx.G x = some v → KeepOk cx v
  sysm : ∃ o, cx.base sysModules o
  nolim : ∀ h, cx.In h → h.NoLimit
  globs : ∀ h, cx.In h → ∃ mg mb, h.Ns mainGlobals mg ∧ h.Ns builtinsNs mb ∧ ∀ x ∈ cx.globs, ∀ v, cx.G x = some v → mg x = some v ∨ (mg x = none ∧ mb x = some v)
  bound : ∀ x ∈ cx.globs, ∃ v, cx.G x = some v
  consts : ∀ x p, (x, p) ∈ cx.consts → x ∈ cx.globs ∧ ∃ v, cx.G x = some v ∧ ∀ h, Rep cx h v p

theorem CxOk.notSys {cx : Cx} (ok : CxOk cx) {H : Hp} {s : Shared} (i : Inv cx H s) {d : Addr} (hd : H d ≠ none) : (d == sysModules) = false := by
  obtain ⟨o, ho⟩ := ok.sysm
  rw [beq_eq_false_iff_ne]
  intro e
  subst e
  exact hd (i.out _ o ho)

end Mine
end

/-! M6c -/
section
set_option autoImplicit false
namespace Mine
open PySem PyProof.Rows

theorem Room.units {n : Nat} {A : Around} (h : Room n A) : A.units < cLine := by have := h.2; omega
theorem Room.units1 {n : Nat} {A : Around} (h : Room n A) : A.in1.units < cLine := by have := h.2; simp only [Around.in1_units]; omega
theorem Room.units64 {n : Nat} {A : Around} (h : Room n A) : A.units + 64 < cLine := by have := h.2; omega

theorem rep_toks {cx : Cx} {s : Shared} {v : Value} {p : PV} {n : Nat} (r : Rep cx s.heap v p) : Rep cx ({ s with toks := n } : Shared).heap v p := r

theorem holds_list {cx : Cx} {h : Heap} {d : Addr} {l : List PV} (x : HoldsO cx h d (.list l)) :
    ∃ vs n, h.get? d = some ⟨.type "list", none, .seq vs n, #[]⟩ ∧ RepL cx h vs.toList l := by simpa only [HoldsO] using x
end Mine
end

/-! M7a -/
section
set_option autoImplicit false
namespace Mine
open PySem PyProof.Rows

/-! ## the compiler from the model's syntax to the mini syntax -/
structure CE where
  tab : List (Str × Nat)
  names : List (Str × NameKind)
  next : Nat

section
variable (gl : List Str) (ks : List (Str × PV))

noncomputable def cName (c : CE) (x : Str) : Option MExpr :=
  if x == ("__debug__" : Str) then none
  else match c.tab.lookup x with
    | some i => some (.var i)
    | none => if c.names.lookup x == some .globalImplicit && gl.contains x then
        (match ks.lookup x with
          | some p => some (.gconst p)
          | none => some (.glob x))
      else none

noncomputable def cMeth (x : Str) : Option Meth :=
  if x == ("append" : Str) then some .append else if x == ("clear" : Str) then some .clear else if x == ("join" : Str) then some .join else none

/-- a builtin's name that nothing hides -/
noncomputable def isB (c : CE) (x y : Str) : Bool := x == y && (c.tab.lookup x).isNone && c.names.lookup x == some .globalImplicit && gl.contains x && (ks.lookup x).isNone

noncomputable def notStar : Expr → Bool
  | .Starred .. => false
  | _ => true
noncomputable def isSlice : Expr → Bool
  | .Slice .. => true
  | _ => false
noncomputable def notSet : Expr → Bool
  | .Set .. => false
  | _ => true
noncomputable def notSuper : Expr → Bool
  | .Call (.Name ..) .. => false
  | _ => true

noncomputable def cTgt2 (c : CE) : Expr → Option MTgt
  | .Name x _ => (c.tab.lookup x).map .var
  | .Tuple [.Name x _, .Name y _] _ _ => match c.tab.lookup x, c.tab.lookup y with
    | some i, some j => if i == j then none else some (.two i j)
    | _, _ => none
  | _ => none

/-- the names of a comprehension's own block -/
noncomputable def compNames (c : CE) (names : List (Str × NameKind)) : List (Str × NameKind) :=
  names.map fun (n, k) => if k == .free && c.names.lookup n == some .cell then (n, .cell) else (n, k)
noncomputable def freeTab (c : CE) (names : List (Str × NameKind)) : List (Str × Nat) :=
  names.filterMap fun (n, k) => if k == .free then (c.tab.lookup n).map fun i => (n, i) else none
noncomputable def tgtNames : Expr → Option (List Str)
  | .Name x _ => some [x]
  | .Tuple [.Name x _, .Name y _] _ _ => if x == y then none else some [x, y]
  | _ => none
noncomputable def compCE (c : CE) (scope : Scope) (t : Expr) : Option (CE × MTgt) :=
  match tgtNames t with
  | some xs =>
    if decide ((scope.names.map (·.1)).Nodup) && scope.kind == .function && (scope.names.all fun (n, k) => (k == .local && (n == (".0" : Str) || xs.contains n) && scope.names.lookup n == some .local) || (k == .free && c.names.lookup n == some .cell && (c.tab.lookup n).isSome && scope.names.lookup n == some .free) || (k == .globalImplicit && scope.names.lookup n == some .globalImplicit)) &&
      (xs.all fun x => scope.names.lookup x == some .local) then
      (match xs with
        | [x] => some (⟨(x, c.next) :: freeTab c scope.names, compNames c scope.names, c.next + 2⟩, .var c.next)
        | [x, y] => some (⟨(x, c.next) :: (y, c.next + 1) :: freeTab c scope.names, compNames c scope.names, c.next + 2⟩, .two c.next (c.next + 1))
        | _ => none)
    else none
  | none => none

/-- a pair that enumerate hands on is unpacked at once -/
noncomputable def tgtFits : MIter → MTgt → Bool
  | .enum _, .var _ => false
  | _, _ => true

/-! pieces -/
noncomputable def opt2 {α β γ : Type} (a : Option α) (b : Option β) (f : α → β → γ) : Option γ := match a with
  | some x => (match b with
    | some y => some (f x y)
    | none => none)
  | none => none
noncomputable def opt3 {α β γ δ : Type} (a : Option α) (b : Option β) (d : Option γ) (f : α → β → γ → δ) : Option δ := match a with
  | some x => opt2 b d (f x)
  | none => none
noncomputable def guardO {α : Type} (b : Bool) (x : Option α) : Option α := match b with
  | true => x
  | false => none
noncomputable def cConst : Const → Option MExpr
  | .none => some .none
  | .bool b => some (.bool b)
  | .int i => some (.int i)
  | .str s => some (.str s)
  | _ => none
noncomputable def cUn (op : UnaryOp) (a : Option MExpr) : Option MExpr := match op with
  | .Not => a.map .not
  | .USub => a.map .neg
  | _ => none
noncomputable def cCmp (ev : Expr → Option MExpr) (l : Expr) (ops : List CmpOp) (rs : List Expr) : Option MExpr := match ops with
  | [op] => (match rs with
    | [r] => guardO (!behindInMarks op r) (opt2 (ev l) (ev r) (.cmp op))
    | _ => none)
  | [op, op'] => (match rs with
    | [m, r] => guardO (!lastMarks [op, op'] [m, r]) (opt3 (ev l) (ev m) (ev r) (.cmp2 op op'))
    | _ => none)
  | _ => none
noncomputable def cList (ev : Expr → Option MExpr) (as : List Expr) : Option MExpr := match as with
  | [a] => (ev a).map .listOf
  | _ => none
noncomputable def cGlob (f : Option MExpr) (as : Option MExprs) : Option MExpr := match f with
  | some f => (match f with
    | .glob f => as.map (.call (.glob f))
    | _ => none)
  | none => none
noncomputable def cCall (c : CE) (ev : Expr → Option MExpr) (evs : List Expr → Option MExprs) (f : Expr) (as : List Expr) (kw : List Keyword) (pos : Pos) : Option MExpr := match kw with
  | [] => (match f with
    | .Attribute o x apos => guardO (notSuper o && decide (as.length < 20) && apos.endLine == pos.line) (opt3 (ev o) (cMeth x) (evs as) .meth)
    | .Name x _ => (match isB gl ks c x "list" with
      | true => cList ev as
      | false => guardO (decide (as.length < 20)) (cGlob (cName gl ks c x) (evs as)))
    | _ => none)
  | _ => none
noncomputable def cCut (lo hi st : Option Expr) (ev : Expr → Option MExpr) (o : Expr) : Option MExpr := match st with
  | none => (match lo with
    | none => (match hi with
      | some i => opt2 (ev o) (ev i) .sliceTo
      | none => none)
    | some i => (match hi with
      | none => opt2 (ev o) (ev i) .sliceFrom
      | some _ => none))
  | some _ => none
noncomputable def cSub (ev : Expr → Option MExpr) (o i : Expr) : Option MExpr := match i with
  | .Slice lo hi st _ => cCut lo hi st ev o
  | i => guardO (!isSlice i) (opt2 (ev o) (ev i) .sub)
noncomputable def cDict (ev : Expr → Option MExpr) (ks : List (Option Expr)) (vs : List Expr) : Option MExpr := match ks with
  | [] => (match vs with
    | [] => some .dict0
    | _ => none)
  | [k] => (match k with
    | some k => (match vs with
      | [v] => opt2 (ev k) (ev v) .dict1
      | _ => none)
    | none => none)
  | _ => none
noncomputable def cGen (mt : MTgt) (i : MIter) (ev : Expr → Option MExpr) (elt : Expr) (ifs : List Expr) : Option MExpr := match ifs with
  | [] => (ev elt).map (.comp mt i)
  | [cnd] => opt2 (ev cnd) (ev elt) (.compIf mt i)
  | _ => none
noncomputable def cComp (c : CE) (it : Expr → Option MIter) (ev : CE → Expr → Option MExpr) (elt : Expr) (gens : List Comprehension) (scope : Scope) : Option MExpr := match gens with
  | [⟨t, iter, ifs, k⟩] => guardO (k == 0) (match compCE c scope t with
    | some (c', mt) => (match it iter with
      | some i => guardO (tgtFits i mt && notSet iter) (cGen mt i (ev c') elt ifs)
      | none => none)
    | none => none)
  | _ => none
/-- what a for goes through -/
noncomputable def cIter (c : CE) (ev : Expr → Option MExpr) (e : Expr) : Option MIter := match e with
  | .Call f as kw p => (match f with
    | .Name x p' => (match as with
      | [a] => (match kw with
        | [] => (match isB gl ks c x "enumerate" with
          | true => (ev a).map .enum
          | false => (match isB gl ks c x "range" with
            | true => (ev a).map .rng
            | false => (ev (.Call (.Name x p') [a] [] p)).map .ex))
        | k :: kw => (ev (.Call (.Name x p') [a] (k :: kw) p)).map .ex)
      | as => (ev (.Call (.Name x p') as kw p)).map .ex)
    | f => (ev (.Call f as kw p)).map .ex)
  | e => (ev e).map .ex

mutual
noncomputable def cE : Nat → CE → Expr → Option MExpr
  | 0, _, _ => none
  | n + 1, c, e => match e with
    | .Constant k _ _ => cConst k
    | .Name x _ => cName gl ks c x
    | .BoolOp op vs _ => cB n c op vs
    | .UnaryOp op x _ => cUn op (cE n c x)
    | .BinOp l op r _ => opt2 (cE n c l) (cE n c r) (.bin op)
    | .Compare l ops rs _ => cCmp (cE n c) l ops rs
    | .Call f as kw pos => cCall gl ks c (cE n c) (cEs n c) f as kw pos
    | .Subscript o i _ => cSub (cE n c) o i
    | .List es _ => (cEs n c es).map .list
    | .Tuple es _ _ => (cEs n c es).map .tup
    | .Dict kk vv _ => cDict (cE n c) kk vv
    | .ListComp elt gens scope _ => cComp c (cIt n c) (cE n) elt gens scope
    | _ => none
noncomputable def cB : Nat → CE → BoolOp → List Expr → Option MExpr
  | 0, _, _, _ => none
  | _ + 1, _, _, [] => none
  | n + 1, c, op, e :: es => match es with
    | [] => cE n c e
    | e' :: es => opt2 (cE n c e) (cB n c op (e' :: es)) (match op with | .And => .and | .Or => .or)
noncomputable def cEs : Nat → CE → List Expr → Option MExprs
  | 0, _, _ => none
  | _ + 1, _, [] => some .nil
  | n + 1, c, e :: es => guardO (notStar e) (opt2 (cE n c e) (cEs n c es) .cons)
noncomputable def cIt : Nat → CE → Expr → Option MIter
  | 0, _, _ => none
  | n + 1, c, e => cIter gl ks c (cE n c) e
end

noncomputable def exprOk : Expr → Bool
  | .Call .. => true
  | _ => false
noncomputable def notTuple : Expr → Bool
  | .Tuple .. => false
  | _ => true

noncomputable def cAsg (c : CE) (ev : Expr → Option MExpr) (ts : List Expr) (e : Expr) : Option MStmt := match ts with
  | [t] => (match t with
    | .Name x _ => opt2 (c.tab.lookup x) (ev e) (fun i m => .asg (.var i) m)
    | .Tuple es k p => guardO (notTuple e) (opt2 (cTgt2 c (.Tuple es k p)) (ev e) .asg)
    | _ => none)
  | _ => none
noncomputable def cRet (ev : Expr → Option MExpr) (e : Option Expr) : Option MStmt := match e with
  | some e => (ev e).map .ret
  | none => none
noncomputable def cFor (c : CE) (t iter : Expr) (it : Option MIter) (b : Option MStmts) (o : List Stmt) : Option MStmt := match o with
  | [] => (match cTgt2 c t with
    | some mt => (match it with
      | some i => guardO (tgtFits i mt && notSet iter) (b.map (.for mt i))
      | none => none)
    | none => none)
  | _ => none
mutual
noncomputable def cS : Nat → CE → Stmt → Option MStmt
  | 0, _, _ => none
  | n + 1, c, st => match st with
    | .Expr e _ => guardO (exprOk e) ((cE gl ks n c e).map .expr)
    | .Assign ts e _ => cAsg c (cE gl ks n c) ts e
    | .Return e _ => cRet (cE gl ks n c) e
    | .If t b o _ => opt3 (cE gl ks n c t) (cSs n c b) (cSs n c o) .ite
    | .For t iter b o _ => cFor c t iter (cIt gl ks n c iter) (cSs n c b) o
    | _ => none
noncomputable def cSs : Nat → CE → List Stmt → Option MStmts
  | 0, _, _ => none
  | _ + 1, _, [] => some .nil
  | n + 1, c, s :: ss => opt2 (cS n c s) (cSs n c ss) .cons
end

noncomputable def pnames (p : Arguments) : List Str := p.args.map (·.arg)
noncomputable def tabOf : Nat → List Str → List (Str × Nat)
  | _, [] => []
  | k, x :: xs => (x, k) :: tabOf (k + 1) xs
/-- a def's body, over the names of its block -/
noncomputable def cFun (names : List Str) (params : Arguments) (scope : Scope) (body : List Stmt) : Option MFun :=
  if names.Nodup && names.take params.args.length == pnames params && params.posonlyargs.isEmpty && params.vararg.isNone && params.kwonlyargs.isEmpty && params.kwarg.isNone && params.defaults.isEmpty && params.kw_defaults.isEmpty &&
      (names.all fun x => scope.names.lookup x == some .local || scope.names.lookup x == some .cell) &&
      scope.kind == .function && !scope.isGenerator && !scope.isCoroutine && ((scope.names.filter fun x => x.2 == .cell).all fun x => names.contains x.1) && decide ((scope.names.map (·.1)).Nodup) then
    (cSs gl ks 60 ⟨tabOf 0 names, scope.names, names.length⟩ body).map fun b => ⟨names, params.args.length, b⟩
  else none
end

end Mine
end

/-! M7b -/
section
set_option autoImplicit false
namespace Mine
open PySem PyProof.Rows

structure FxOk (cx : Cx) (c : CE) (env : Env) : Prop where
  kind : env.scope.kind = .function
  names : env.scope.names = c.names
  globals : env.globals = mainGlobals
  builtins : env.builtins = builtinsNs
  vars : ∀ x i, c.tab.lookup x = some i → env.kindOf x = some .local ∨ (env.kindOf x = some .cell ∧ ∃ a, env.cells.lookup x = some a)
  inj : ∀ x y i, c.tab.lookup x = some i → c.tab.lookup y = some i → x = y
  apart : env.cells.Pairwise fun x y => x.2 ≠ y.2
  cloc : ∀ x a, env.cells.lookup x = some a → a ≠ env.locals
  below : ∀ x i, c.tab.lookup x = some i → i < c.next

noncomputable def Fset (env : Env) : Addr → Prop := fun a => a = env.locals ∨ ∃ x, env.cells.lookup x = some a

noncomputable def FrOk (cx : Cx) (c : CE) (env : Env) (σ : List (Option PV)) (h : Heap) : Prop :=
  ∃ m cm : Str → Option Value, h.Ns env.locals m ∧ (∀ x a, env.cells.lookup x = some a → h.IsCell a (cm x)) ∧
    ∀ x i p, c.tab.lookup x = some i → σ[i]? = some (some p) → ∃ v, (if env.kindOf x = some .local then m x else cm x) = some v ∧ Rep cx h v p

structure At (cx : Cx) (c : CE) (env : Env) (σ : List (Option PV)) (H : Hp) (s : Shared) : Prop where
  inv : Inv cx H s
  fr : FrOk cx c env σ s.heap
  apart : ∀ a, Fset env a → H a = none
  nbase : ∀ a o, Fset env a → ¬ cx.base a o
  len : σ.length = c.next

section
variable {cx : Cx} {c : CE} {env : Env} {σ : List (Option PV)} {H H' : Hp} {s s' : Shared}

theorem FrOk.live (x : FrOk cx c env σ s.heap) {a : Addr} (ha : Fset env a) : s.heap.get? a ≠ none := by
  obtain ⟨m, cm, ⟨o, es, ep, ho, _⟩, hc, _⟩ := x
  rcases ha with rfl | ⟨x, hx⟩
  · rw [ho]; simp
  · obtain ⟨o', ho', _⟩ := hc x a hx; rw [ho']; simp
theorem FrOk.noTup (x : FrOk cx c env σ s.heap) : NoTup s.heap (Fset env) := by
  intro a ha vs n e
  obtain ⟨m, cm, ⟨o, es, ep, ho, hd, _⟩, hc, _⟩ := x
  rcases ha with rfl | ⟨x, hx⟩
  · rw [e] at ho; injection ho with ho; subst ho; simp at hd
  · obtain ⟨o', ho', hd'⟩ := hc x a hx; rw [e] at ho'; injection ho' with ho'; subst ho'; simp at hd'

theorem FrOk.keep {h h' : Heap} (x : FrOk cx c env σ h) (hk : ∀ a o, Fset env a → h.get? a = some o → h'.get? a = some o)
    (ht : ∀ a vs n, h.get? a = some ⟨.type "tuple", none, .seq vs n, #[]⟩ → h'.get? a = some ⟨.type "tuple", none, .seq vs n, #[]⟩) : FrOk cx c env σ h' := by
  obtain ⟨m, cm, hn, hc, hv⟩ := x
  refine ⟨m, cm, ?_, fun x a hx => ?_, fun x i p hx hi => ?_⟩
  · obtain ⟨o, es, ep, ho, r⟩ := hn; exact ⟨o, es, ep, hk _ _ (.inl rfl) ho, r⟩
  · obtain ⟨o, ho, hd⟩ := hc x a hx; exact ⟨o, hk _ _ (.inr ⟨x, hx⟩) ho, hd⟩
  · obtain ⟨v, h1, h2⟩ := hv x i p hx hi; exact ⟨v, h1, rep_keep ht _ h2⟩

theorem At.step (x : At cx c env σ H s) (st : Step noF s H s' H') (i' : Inv cx H' s') : At cx c env σ H' s' := by
  have hk : ∀ a o, Fset env a → s.heap.get? a = some o → s'.heap.get? a = some o := fun a o ha e => st.keep a o (fun h => h.elim (fun h => h (x.apart a ha)) id) e
  refine ⟨i', x.fr.keep hk (st.tups x.inv noTup_noF), fun a ha => ?_, x.nbase, x.len⟩
  cases hH : H' a with
  | none => rfl
  | some o =>
    rcases st.grow a (by rw [hH]; simp) with h | h
    · exact absurd (x.apart a ha) h
    · exact absurd h (x.fr.live ha)

theorem At.toks (x : At cx c env σ H s) (n : Nat) : At cx c env σ H { s with toks := n } := ⟨x.inv.toks n, x.fr, x.apart, x.nbase, x.len⟩

theorem load_var {M : Model} {A : Around} {E : Value → Shared → Prop} {Q : Value → Shared → Prop} {x : Str} {i : Nat} {p : PV} (fx : FxOk cx c env) (a : At cx c env σ H s) (ht : c.tab.lookup x = some i) (hσ : σ[i]? = some (some p))
    (q : ∀ v, Rep cx s.heap v p → Q v s) : wpAny M A (loadName env x) Q E s := by
  obtain ⟨m, cm, hn, hc, hv⟩ := a.fr
  obtain ⟨v, h1, h2⟩ := hv x i p ht hσ
  rcases fx.vars x i ht with hl | ⟨hl, ad, had⟩
  · rw [if_pos hl] at h1
    exact wpAny_loadName_local fx.kind hl hn h1 (q v h2)
  · rw [if_neg (by rw [hl]; simp)] at h1
    exact wpAny_loadName_cell fx.kind hl had (h1 ▸ hc x ad had) (q v h2)

theorem setv_get {σ : List (Option PV)} {i j : Nat} {p q : PV} (h : (setv σ i p)[j]? = some (some q)) : (j = i ∧ q = p) ∨ (j ≠ i ∧ σ[j]? = some (some q)) := by
  unfold setv at h
  rw [List.getElem?_set] at h
  split at h
  · rename_i e
    split at h
    · simp only [Option.some.injEq] at h; exact .inl ⟨e.symm, h.symm⟩
    · cases h
  · rename_i e; exact .inr ⟨fun h => e h.symm, h⟩

theorem store_var {M : Model} {A : Around} {E : Value → Shared → Prop} {Q : Unit → Shared → Prop} {x : Str} {i : Nat} {p : PV} {v : Value} (fx : FxOk cx c env) (a : At cx c env σ H s) (ht : c.tab.lookup x = some i) (r : Rep cx s.heap v p)
    (q : ∀ ad s', Fset env ad → (env.kindOf x = some .local → ad = env.locals) → At cx c env (setv σ i p) H s' → Step (fun a => a = ad) s H s' H → Q () s') : wpAny M A (storeName env x v) Q E s := by
  obtain ⟨m, cm, hn, hc, hv⟩ := a.fr
  have nt := a.fr.noTup
  have fin : ∀ (ad : Addr) (h' : Heap) (tk : Nat), Fset env ad → (env.kindOf x = some .local → ad = env.locals) → Heap.SameBut ad s.heap h' → FrOk cx c env (setv σ i p) h' → Q () { s with heap := h', toks := tk } := fun ad h' tk had hloc hs fr => by
    have hk : ∀ b o, b ≠ ad → s.heap.get? b = some o → h'.get? b = some o := fun b o hb e => (hs.2 b hb).trans e
    refine q ad _ had hloc ⟨⟨fun b o e => ?_, a.inv.out, fun b o e => ?_⟩, fr, a.apart, a.nbase, by simp [setv, a.len]⟩ ⟨⟨h', tk, rfl⟩, fun b o hb e => ?_, fun _ h => .inl h, live_but hk (FrOk.live (s := { s with heap := h', toks := tk }) fr had)⟩
    · exact hk b o (fun h => a.nbase ad o had (h ▸ e)) (a.inv.base b o e)
    · refine (a.inv.ok b o e).keep (X := noF) (fun c vs n e' => hk c _ (fun h => nt ad had vs n (h ▸ e')) e') fun ob e' => hk b ob (fun h => ?_) e'
      rw [h, a.apart ad had] at e; cases e
    · exact hk b o (fun h => hb (.inr h)) e
  have rk : ∀ (ad : Addr) (h' : Heap), Fset env ad → Heap.SameBut ad s.heap h' → ∀ {w : Value} {p : PV}, Rep cx s.heap w p → Rep cx h' w p := fun ad h' had hs w p rr =>
    rep_keep (fun c vs n e' => (hs.2 c (fun h => nt ad had vs n (h ▸ e'))).trans e') p rr
  rcases fx.vars x i ht with hl | ⟨hl, ad, had⟩
  · refine wpAny_storeName_local hl hn (fun h' hn' hs => fin env.locals h' _ (.inl rfl) (fun _ => rfl) hs ⟨_, cm, hn', fun y b hy => (hc y b hy).sameBut hs (fx.cloc y b hy), fun y j p' hy hj => ?_⟩) (by rw [fx.kind]; rfl)
    rcases setv_get hj with ⟨rfl, rfl⟩ | ⟨hne, hj⟩
    · have := fx.inj x y _ ht hy
      subst this
      exact ⟨v, by rw [if_pos hl]; simp, rk _ _ (.inl rfl) hs r⟩
    · obtain ⟨w, h1, h2⟩ := hv y j p' hy hj
      refine ⟨w, ?_, rk _ _ (.inl rfl) hs h2⟩
      have hxy : y ≠ x := fun e => hne (by subst e; rw [ht] at hy; injection hy with hy; exact hy.symm)
      split
      · rename_i hly; rw [if_pos hly] at h1; simpa [hxy] using h1
      · rename_i hly; rw [if_neg hly] at h1; exact h1
  · refine wpAny_storeName_cell fx.kind hl had (hc x ad had) fun h' hc' hs => fin ad h' _ (.inr ⟨x, had⟩) (fun h => by rw [hl] at h; simp at h) hs ⟨m, fun y => if y = x then some v else cm y, hn.sameBut hs (Ne.symm (fx.cloc x ad had)), fun y b hy => ?_, fun y j p' hy hj => ?_⟩
    · by_cases hyx : y = x
      · subst hyx
        rw [had] at hy; injection hy with hy; subst hy
        simpa using hc'
      · simp only [hyx, if_false]
        refine (hc y b hy).sameBut hs fun e => hyx ?_
        subst e
        exact name_of_addr fx.apart (mem_of_lookup hy) (mem_of_lookup had)
    · rcases setv_get hj with ⟨rfl, rfl⟩ | ⟨hne, hj⟩
      · have := fx.inj x y _ ht hy
        subst this
        exact ⟨v, by rw [if_neg (by rw [hl]; simp)]; simp, rk _ _ (.inr ⟨x, had⟩) hs r⟩
      · obtain ⟨w, h1, h2⟩ := hv y j p' hy hj
        refine ⟨w, ?_, rk _ _ (.inr ⟨x, had⟩) hs h2⟩
        have hxy : y ≠ x := fun e => hne (by subst e; rw [ht] at hy; injection hy with hy; exact hy.symm)
        split
        · rename_i hly; rw [if_pos hly] at h1; exact h1
        · rename_i hly; rw [if_neg hly] at h1; simpa [hxy] using h1

end

theorem Ns.globals {cx : Cx} (ok : CxOk cx) {H : Hp} {s : Shared} (i : Inv cx H s) {c : CE} {env : Env} (fx : FxOk cx c env) {M : Model} {A : Around} {E : Value → Shared → Prop} {Q : Value → Shared → Prop} {x : Str} {pos : Pos} {v : Value}
    (hx : x ∈ cx.globs) (hg : cx.G x = some v) (hk : env.kindOf x = some .globalImplicit) (hd : (x == ("__debug__" : Str)) = false) (q : Q v s) : wpAny M A (eval (.Name x pos) env) Q E s := by
  obtain ⟨mg, mb, ng, nb, h⟩ := ok.globs s.heap i.base
  refine Calls.Name_function_global fx.kind hk ?_ hd
  rcases h x hx v hg with h1 | ⟨h1, h2⟩
  · exact Calls.loadGlobal_global (fx.globals ▸ ng) h1 q
  · exact Calls.loadGlobal_builtin (fx.globals ▸ ng) h1 (fx.builtins ▸ nb) h2 q

end Mine
end

/-! M7c -/
section
set_option autoImplicit false
namespace Mine
open PySem PyProof.Rows

/-! ## what a for goes through -/
structure Walk (cx : Cx) (I : Addr) (items : List PV) (dep : Hp → Prop) (tok : Expr → Prop) (wr : Addr → Prop) (St : Nat → Heap → Prop) (Mid : Nat → Value → Heap → Prop) : Prop where
  own : wr I
  live : ∀ k h a, St k h → wr a → h.get? a ≠ none
  noTup : ∀ k h, St k h → NoTup h wr
  midTup : ∀ k v h, Mid k v h → NoTup h wr
  frame : ∀ k h h', St k h → (∀ a o, wr a → h.get? a = some o → h'.get? a = some o) → (∀ a vs n, h.get? a = some ⟨.type "tuple", none, .seq vs n, #[]⟩ → h'.get? a = some ⟨.type "tuple", none, .seq vs n, #[]⟩) → St k h'
  item : ∀ {A : Around} {k : Nat} {s : Shared} {H : Hp} {p : PV} {Q : Option Value → Shared → Prop} {E : Value → Shared → Prop}, A.handled = none → St k s.heap → Inv cx H s → dep H → (∀ a, wr a → H a = none) → items[k]? = some p →
    (∀ v s', Same s s' → KeepBut wr s.heap s'.heap → Mid (k + 1) v s'.heap → Rep cx s'.heap v p → Q (some v) s') → wpAny (model cx.prog cx.w) A (pyNext (.ref I)) Q E s
  done : ∀ {A : Around} {k : Nat} {s : Shared} {H : Hp} {Q : Option Value → Shared → Prop} {E : Value → Shared → Prop}, A.handled = none → St k s.heap → Inv cx H s → dep H → (∀ a, wr a → H a = none) → items[k]? = none → k ≤ items.length →
    (∀ s', Same s s' → KeepBut wr s.heap s'.heap → Q none s') → wpAny (model cx.prog cx.w) A (pyNext (.ref I)) Q E s
  self : ∀ {A : Around} {k : Nat} {s : Shared} {Q : Value → Shared → Prop} {E : Value → Shared → Prop}, St k s.heap → Q (.ref I) s → wpAny (model cx.prog cx.w) A (pyIter (.ref I)) Q E s
  lot : ∀ {A : Around} {k : Nat} {s : Shared} {t : Expr} {v : Value} {Q : Unit → Shared → Prop} {E : Value → Shared → Prop}, tok t → Mid k v s.heap →
    (∀ s', Same s s' → KeepBut wr s.heap s'.heap → St k s'.heap → Q () s') → wpAny (model cx.prog cx.w) A (letOwnedTupleGo t (.ref I) v) Q E s

theorem lot_other {M : Model} {A : Around} {E : Value → Shared → Prop} {s : Shared} {I : Addr} {n : String} {vs : Array Value} {o : Obj} {t : Expr} {v : Value} {Q : Unit → Shared → Prop} (ho : s.heap.get? I = some o) (hc : o.cls = .type n) (hd : o.data = .fields vs)
    (hn : ["enumerate", "zip", "dict_itemiterator", "dict_reverseitemiterator", "odict_iterator", "itertools.zip_longest", "itertools.pairwise"].contains n = false) (q : Q () s) : wpAny M A (letOwnedTupleGo t (.ref I) v) Q E s := by
  unfold letOwnedTupleGo
  have main : wpAny M A (do
      let (.ref r, .ref a) := (Value.ref I, v) | return
      let o ← load r
      match o.cls, o.data with
      | .type n, .fields vs =>
        if ["enumerate", "zip", "dict_itemiterator", "dict_reverseitemiterator", "odict_iterator", "itertools.zip_longest", "itertools.pairwise"].contains n && vs[0]? == some (rawInt a) then
          rule "for.unpacks-the-owned-tuple"
          updateField r 0 .none
      | _, _ => pure ()) Q E s := by
    cases v <;> try exact wpAny_pure q
    refine wpAny_bind (wpAny_load ho ?_)
    rw [hc, hd]
    show wpAny M A (if (["enumerate", "zip", "dict_itemiterator", "dict_reverseitemiterator", "odict_iterator", "itertools.zip_longest", "itertools.pairwise"].contains n && _) = true then _ else _) Q E s
    rw [hn, Bool.false_and, if_neg Bool.false_ne_true]
    exact wpAny_pure q
  split
  · exact main
  · exact main
  · exact wpAny_pure q

theorem same_heap (s : Shared) (h : Heap) : Same s { s with heap := h } := ⟨h, s.toks, rfl⟩
theorem keep_same {a : Addr} {h h' : Heap} (x : Heap.SameBut a h h') : KeepBut (fun b => b = a) h h' := fun b _ hb e => (x.2 b hb).trans e
theorem keep_ext {a : Addr} {h h' : Heap} (x : Heap.ExtBut a h h') : KeepBut (fun b => b = a) h h' := fun b o hb e => x b o hb e
theorem rep_single {cx : Cx} {h h' : Heap} {a : Addr} {o : Obj} {n : String} (ho : h.get? a = some o) (hc : o.cls = .type n) (hn : n ≠ "tuple") (k : KeepBut (fun b => b = a) h h') {v : Value} {p : PV} (r : Rep cx h v p) : Rep cx h' v p :=
  rep_keep (fun b vs m e => k b _ (fun hb => by subst hb; rw [ho] at e; injection e with e; subst e; simp only [Value.type.injEq] at hc; exact hn hc.symm) e) p r
theorem noTup_single {h : Heap} {a : Addr} {o : Obj} {n : String} (ho : h.get? a = some o) (hc : o.cls = .type n) (hn : n ≠ "tuple") : NoTup h (fun b => b = a) := fun b hb vs m e => by
  subst hb; rw [ho] at e; injection e with e; subst e; simp only [Value.type.injEq] at hc; exact hn hc.symm

section
variable {cx : Cx}

theorem Walk.list (I a : Addr) (l : List PV) : Walk cx I l (fun H => H a = some (.list l)) (fun _ => True) (fun b => b = I) (fun k h => h.IsListIter I a k) (fun k _ h => h.IsListIter I a k) where
  own := rfl
  live := fun k h b st hb => by subst hb; obtain ⟨o, ho, _⟩ := st; rw [ho]; simp
  noTup := fun k h st => by obtain ⟨o, ho, hc, _⟩ := st; exact noTup_single ho hc (by decide)
  midTup := fun k _ h st => by obtain ⟨o, ho, hc, _⟩ := st; exact noTup_single ho hc (by decide)
  frame := fun k h h' st hk _ => by obtain ⟨o, ho, r⟩ := st; exact ⟨o, hk I o rfl ho, r⟩
  item := fun {A k s H p Q E} hh st i hd hw hp q => by
    obtain ⟨vs, n, ho, rl⟩ := holds_list (i.ok a _ hd)
    obtain ⟨v, hv, rv⟩ := repL_get rl hp
    obtain ⟨o, hoI, hc, _⟩ := id st
    refine wpAny_pyNext_list_item st ⟨_, ho, rfl, n, rfl⟩ (by simpa using hv) fun h' hit hs => ?_
    exact q v _ (same_heap _ _) (keep_same hs) hit (rep_single hoI hc (by decide) (keep_same hs) rv)
  done := fun {A k s H Q E} hh st i hd hw hp hk q => by
    obtain ⟨vs, n, ho, rl⟩ := holds_list (i.ok a _ hd)
    have := repL_length rl
    refine wpAny_pyNext_list_end hh st ⟨_, ho, rfl, n, rfl⟩ ?_ fun h' he => q _ (same_heap _ _) (keep_ext he)
    simp only [List.getElem?_eq_none_iff] at hp
    simp only [Array.length_toList] at this
    simp; omega
  self := fun st q => wpAny_pyIter_listiter st q
  lot := fun _ st q => by obtain ⟨o, ho, hc, hd⟩ := id st; exact lot_other ho hc hd (by decide) (q _ (.refl _) (.refl _ _) st)

theorem Walk.tup (I a : Addr) (vs : Array Value) (n : Nat) (l : List PV) :
    Walk cx I l (fun _ => True) (fun _ => True) (fun b => b = I) (fun k h => IsTupIter h I a k ∧ h.get? a = some ⟨.type "tuple", none, .seq vs n, #[]⟩ ∧ RepL cx h vs.toList l)
      (fun k _ h => IsTupIter h I a k ∧ h.get? a = some ⟨.type "tuple", none, .seq vs n, #[]⟩ ∧ RepL cx h vs.toList l) where
  own := rfl
  live := fun k h b st hb => by subst hb; obtain ⟨⟨o, ho, _⟩, _⟩ := st; rw [ho]; simp
  noTup := fun k h st => by obtain ⟨⟨o, ho, hc, _⟩, _⟩ := st; exact noTup_single ho hc (by decide)
  midTup := fun k _ h st => by obtain ⟨⟨o, ho, hc, _⟩, _⟩ := st; exact noTup_single ho hc (by decide)
  frame := fun k h h' st hk ht => by obtain ⟨⟨o, ho, r⟩, h1, h2⟩ := st; exact ⟨⟨o, hk I o rfl ho, r⟩, ht _ _ _ h1, repL_keep ht _ h2⟩
  item := fun {A k s H p Q E} hh st i hd hw hp q => by
    obtain ⟨st, ho, rl⟩ := st
    obtain ⟨v, hv, rv⟩ := repL_get rl hp
    obtain ⟨o, hoI, hc, _⟩ := id st
    refine next_tuple_item st (isTup_of ho) (by simpa using hv) fun h' hit hs => ?_
    have ht := tup_keep (noTup_single hoI hc (by decide)) (keep_same hs)
    exact q v _ (same_heap _ _) (keep_same hs) ⟨hit, ht _ _ _ ho, repL_keep ht _ rl⟩ (rep_keep ht _ rv)
  done := fun {A k s H Q E} hh st i hd hw hp hk q => by
    obtain ⟨st, ho, rl⟩ := st
    have := repL_length rl
    refine next_tuple_end hh st (isTup_of ho) ?_ fun h' he => q _ (same_heap _ _) (keep_ext he)
    simp only [List.getElem?_eq_none_iff] at hp
    simp only [Array.length_toList] at this
    simp; omega
  self := fun st q => wpAny_pyIter_tupleiter st.1 q
  lot := fun _ st q => by obtain ⟨o, ho, hc, hd⟩ := id st.1; exact lot_other ho hc hd (by decide) (q _ (.refl _) (.refl _ _) st)

theorem Walk.str (I : Addr) (x : Str) (t : Tok) : Walk cx I (chars x) (fun _ => True) (fun _ => True) (fun b => b = I) (fun k h => h.IsStrIter I (strIterType x) x t k) (fun k _ h => h.IsStrIter I (strIterType x) x t k) where
  own := rfl
  live := fun k h b st hb => by subst hb; obtain ⟨o, ho, _⟩ := st; rw [ho]; simp
  noTup := fun k h st => by obtain ⟨o, ho, hc, _⟩ := st; exact noTup_single ho hc (by unfold strIterType; split <;> decide)
  midTup := fun k _ h st => by obtain ⟨o, ho, hc, _⟩ := st; exact noTup_single ho hc (by unfold strIterType; split <;> decide)
  frame := fun k h h' st hk _ => by obtain ⟨o, ho, r⟩ := st; exact ⟨o, hk I o rfl ho, r⟩
  item := fun {A k s H p Q E} hh st i hd hw hp q => by
    unfold chars at hp
    rw [List.getElem?_map] at hp
    cases hx : x.cps.toList[k]? with
    | none => rw [hx] at hp; simp at hp
    | some c =>
      rw [hx] at hp
      simp only [Option.map_some, Option.some.injEq] at hp
      subst hp
      have hx' : x.cps[k]? = some c := by simpa using hx
      cases ha : x.cps.all (· < 128)
      · have e : strIterType x = "str_iterator" := by simp [strIterType, ha]
        rw [e] at st q
        exact wpAny_pyNext_wide_item st hx' fun h' hit hs => q _ _ ⟨_, _, rfl⟩ (keep_same hs) hit (by simp [Rep, chr])
      · have e : strIterType x = "str_ascii_iterator" := by simp [strIterType, ha]
        rw [e] at st q
        exact wpAny_pyNext_ascii_item st hx' fun h' hit hs => q _ _ ⟨_, _, rfl⟩ (keep_same hs) hit (by simp [Rep, chr])
  done := fun {A k s H Q E} hh st i hd hw hp hk q => by
    have hx' : x.cps[k]? = none := by
      unfold chars at hp
      rw [List.getElem?_map] at hp
      cases hx : x.cps.toList[k]? with
      | none => simpa using hx
      | some c => rw [hx] at hp; simp at hp
    cases ha : x.cps.all (· < 128)
    · have e : strIterType x = "str_iterator" := by simp [strIterType, ha]
      rw [e] at st
      exact wpAny_pyNext_wide_end hh st hx' fun h' he => q _ (same_heap _ _) (keep_ext he)
    · have e : strIterType x = "str_ascii_iterator" := by simp [strIterType, ha]
      rw [e] at st
      exact wpAny_pyNext_ascii_end hh st hx' fun h' he => q _ (same_heap _ _) (keep_ext he)
  self := fun {A k s Q E} st q => by
    cases ha : x.cps.all (· < 128)
    · have e : strIterType x = "str_iterator" := by simp [strIterType, ha]
      rw [e] at st; exact wpAny_pyIter_striter_wide st q
    · have e : strIterType x = "str_ascii_iterator" := by simp [strIterType, ha]
      rw [e] at st; exact wpAny_pyIter_striter_ascii st q
  lot := fun _ st q => by obtain ⟨o, ho, hc, hd⟩ := id st; exact lot_other ho hc hd (by unfold strIterType; split <;> decide) (q _ (.refl _) (.refl _ _) st)

theorem Walk.range (I : Addr) (a b : Int) : Walk cx I (rangeL a b) (fun _ => True) (fun _ => True) (fun b => b = I) (fun k h => IsRangeIter h I (a + k) ((b - a).toNat - k) 1) (fun k _ h => IsRangeIter h I (a + k) ((b - a).toNat - k) 1) where
  own := rfl
  live := fun k h b st hb => by subst hb; rw [st]; simp
  noTup := fun k h st => noTup_single st rfl (by decide)
  midTup := fun k _ h st => noTup_single st rfl (by decide)
  frame := fun k h h' st hk _ => hk I _ rfl st
  item := fun {A k s H p Q E} hh st i hd hw hp q => by
    unfold rangeL at hp
    rw [List.getElem?_map] at hp
    have hlt : k < (b - a).toNat := by
      rcases Nat.lt_or_ge k (b - a).toNat with h | h
      · exact h
      · rw [List.getElem?_eq_none (by simpa using h)] at hp; simp at hp
    rw [List.getElem?_range hlt] at hp
    simp only [Option.map_some, Option.some.injEq] at hp
    subst hp
    refine wpAny_pyNext_range_item st (by omega) fun h' hit hs => q _ _ ⟨_, _, rfl⟩ (keep_same hs) ?_ (by simp [Rep])
    rw [show a + ((k + 1 : Nat) : Int) = a + (k : Int) + 1 by omega, show (((b - a).toNat : Nat) : Int) - ((k + 1 : Nat) : Int) = ((b - a).toNat : Int) - (k : Int) - 1 by omega]
    exact hit
  done := fun {A k s H Q E} hh st i hd hw hp hk q => by
    unfold rangeL at hp hk
    simp only [List.getElem?_eq_none_iff, List.length_map, List.length_range] at hp
    exact wpAny_pyNext_range_end hh st (by omega) fun h' he => q _ (same_heap _ _) (keep_ext he)
  self := fun st q => wpAny_pyIter_rangeiter st q
  lot := fun _ st q => lot_other st rfl rfl (by decide) (q _ (.refl _) (.refl _ _) st)

end

end Mine
end

/-! M7d -/
section
set_option autoImplicit false
namespace Mine
open PySem PyProof.Rows

section
variable {prog : Program} {w : World} {A : Around} {E : Value → Shared → Prop} {s : Shared}

theorem enum_next {e it : Addr} {i : Nat} {old : Value} {P : Value → Heap → Prop} {Q : Option Value → Shared → Prop} (he : IsEnum s.heap e it i old) (hne : e ≠ it)
    (hin : ∀ (Q' : Value → Shared → Prop) (E' : Value → Shared → Prop), (∀ v h' tk, P v h' → KeepBut (fun b => b = it) s.heap h' → Q' v { s with heap := h', toks := tk }) → wpAny (model prog w) A.in1 (Builtin.SmallTypes.nextOf (.ref it)) Q' E' s)
    (hQ : ∀ v h₁ h' a t tk, P v h₁ → KeepBut (fun b => b = it) s.heap h₁ → KeepBut (fun b => b = e) h₁ h' → IsEnumOut h' e it ((i : Int) + 1) v a → h'.get? a = some ⟨.type "tuple", none, .seq #[.int i t, v] 0, #[]⟩ → h₁.get? a = none →
      Q (some (.ref a)) { s with heap := h', toks := tk }) :
    wpAny (model prog w) A (pyNext (.ref e)) Q E s := by
  have hT : s.TypeIs (.ref e) "enumerate" := ⟨_, he, rfl⟩
  unfold pyNext
  refine wpAny_bind (wpAny_attempt (wpAny_callSpecial?_slot (name := Str.ofString "__next__") hT F.slot_enumerate_next
    (wpAny_call_entry F.slot_enumerate_next hT F.entry_enumerate_next ?_ (F.args_enumerate_next_1 _))))
  show wpAny _ _ (field (.ref e) 2 >>= _) _ _ _
  refine wpAny_bind (wpAny_field he rfl (x := .ref it) rfl ?_)
  refine wpAny_bind (hin _ _ fun x h₁ tk hP hs₁ => ?_)
  have he₁ : IsEnum h₁ e it i old := hs₁ e _ hne he
  show wpAny _ _ (field (.ref e) 3 >>= _) _ _ _
  refine wpAny_bind (wpAny_field (s := { s with heap := h₁, toks := tk }) he₁ rfl (x := rawInt i) rfl ?_)
  show wpAny _ _ (field (.ref e) 4 >>= _) _ _ _
  refine wpAny_bind (wpAny_field (s := { s with heap := h₁, toks := tk }) he₁ rfl (x := .none) rfl ?_)
  show wpAny _ _ (mkInt i >>= _) _ _ _
  refine wpAny_bind (wpAny_mkInt ?_)
  show wpAny _ _ (setField (.ref e) 3 (rawInt ((i : Int) + 1)) >>= _) _ _ _
  refine wpAny_bind (wpAny_setField_rec (s := { s with heap := h₁, toks := tk + 1 }) he₁ (by simp) fun h₂ he₂ hs₂ => ?_)
  replace hs₂ : Heap.SameBut e h₁ h₂ := hs₂
  replace he₂ : IsEnum h₂ e it ((i : Int) + 1) old := he₂
  show wpAny _ _ (setField (.ref e) 4 .none >>= _) _ _ _
  refine wpAny_bind (wpAny_setField_rec (s := { s with heap := h₂, toks := tk + 1 }) he₂ (by simp) fun h₃ he₃ hs₃ => ?_)
  replace hs₃ : Heap.SameBut e h₂ h₃ := hs₃
  replace he₃ : IsEnum h₃ e it ((i : Int) + 1) old := he₃
  show wpAny _ _ (newTuple [.int i tk, x] >>= _) _ _ _
  refine wpAny_bind (wpAny_newTuple (s := { s with heap := h₃, toks := tk + 1 }) ?_)
  have he₄ : IsEnum (h₃.push { cls := .type "tuple", data := .seq #[.int i tk, x] }) e it ((i : Int) + 1) old := Heap.get?_push_of_some _ he₃
  have ht₄ : (h₃.push { cls := .type "tuple", data := .seq #[.int i tk, x] }).get? h₃.objs.size = some { cls := .type "tuple", data := .seq #[.int i tk, x] } := Heap.get?_push_size _ rfl
  have hk₄ : ∀ b o, b ≠ e → h₁.get? b = some o → (h₃.push { cls := .type "tuple", data := .seq #[.int i tk, x] }).get? b = some o := fun b o hb e' =>
    Heap.get?_push_of_some _ (hs₃.extBut b o hb (hs₂.extBut b o hb e'))
  have hel : e ≠ h₃.objs.size := Nat.ne_of_lt (Heap.lt_size he₃)
  have hfr : h₁.get? h₃.objs.size = none := by
    cases q : h₁.get? h₃.objs.size with
    | none => rfl
    | some o =>
      have := hs₃.extBut _ _ (Ne.symm hel) (hs₂.extBut _ _ (Ne.symm hel) q)
      exact absurd (Heap.lt_size this) (Nat.lt_irrefl _)
  generalize h₃.push { cls := .type "tuple", data := .seq #[.int i tk, x] } = h₄ at he₄ ht₄ hk₄
  show wpAny _ _ (Builtin.SmallTypes.ownedTupleIsFree (.ref e) >>= _) _ _ _
  refine wpAny_bind ?_
  unfold Builtin.SmallTypes.ownedTupleIsFree
  refine wpAny_bind (wpAny_field (s := { s with heap := h₄, toks := tk + 1 }) he₄ rfl (x := .none) rfl (wpAny_pure ?_))
  simp only [if_true]
  refine wpAny_bind (wpAny_rule ?_)
  refine wpAny_bind (wpAny_field (s := { s with heap := h₄, toks := tk + 1 }) he₄ rfl (x := old) rfl ?_)
  refine wpAny_bind (wpAny_setField_rec (s := { s with heap := h₄, toks := tk + 1 }) he₄ (by simp) fun h₅ he₅ hs₅ => ?_)
  replace hs₅ : Heap.SameBut e h₄ h₅ := hs₅
  replace he₅ : IsEnum h₅ e it ((i : Int) + 1) x := he₅
  show wpAny _ _ (Builtin.SmallTypes.ownedTupleHandOut (.ref e) (.ref h₃.objs.size) >>= _) _ _ _
  refine wpAny_bind ?_
  unfold Builtin.SmallTypes.ownedTupleHandOut
  refine wpAny_bind (wpAny_setField_rec (s := { s with heap := h₅, toks := tk + 1 }) he₅ (by simp) fun h₆ he₆ hs₆ => ?_)
  replace hs₆ : Heap.SameBut e h₅ h₆ := hs₆
  replace he₆ : IsEnumOut h₆ e it ((i : Int) + 1) x h₃.objs.size := he₆
  refine wpAny_setField_rec (s := { s with heap := h₆, toks := tk + 1 }) he₆ (by simp) fun h₇ he₇ hs₇ => ?_
  replace hs₇ : Heap.SameBut e h₆ h₇ := hs₇
  replace he₇ : IsEnumOut h₇ e it ((i : Int) + 1) x h₃.objs.size := he₇
  refine wpAny_bind (wpAny_letGo (wpAny_pure ⟨_, rfl, wpAny_pure (hQ x h₁ h₇ _ tk _ hP hs₁ (fun b o hb e' => ?_) he₇ ?_ hfr)⟩))
  · exact hs₇.extBut b o hb (hs₆.extBut b o hb (hs₅.extBut b o hb (hk₄ b o hb e')))
  · exact hs₇.extBut _ _ (Ne.symm hel) (hs₆.extBut _ _ (Ne.symm hel) (hs₅.extBut _ _ (Ne.symm hel) ht₄))

theorem enum_end {e it : Addr} {i : Nat} {old : Value} {Q : Option Value → Shared → Prop} (he : IsEnum s.heap e it i old)
    (hin : ∀ (Q' : Value → Shared → Prop) (E' : Value → Shared → Prop), (∀ h' x, Heap.ExtBut it s.heap h' → (∃ o, h'.get? x = some o ∧ o.cls = .type "StopIteration") → E' (.ref x) { s with heap := h' }) → wpAny (model prog w) A.in1 (Builtin.SmallTypes.nextOf (.ref it)) Q' E' s)
    (hQ : ∀ h', Heap.ExtBut it s.heap h' → Q none { s with heap := h' }) : wpAny (model prog w) A (pyNext (.ref e)) Q E s := by
  have hT : s.TypeIs (.ref e) "enumerate" := ⟨_, he, rfl⟩
  unfold pyNext
  refine wpAny_bind (wpAny_attempt (wpAny_callSpecial?_slot (name := Str.ofString "__next__") hT F.slot_enumerate_next
    (wpAny_call_entry F.slot_enumerate_next hT F.entry_enumerate_next ?_ (F.args_enumerate_next_1 _))))
  show wpAny _ _ (field (.ref e) 2 >>= _) _ _ _
  refine wpAny_bind (wpAny_field he rfl (x := .ref it) rfl ?_)
  refine wpAny_bind (hin _ _ fun h' x he' hx' => ?_)
  obtain ⟨o, ho, hc⟩ := hx'
  refine wpAny_bind (wpAny_isInstance (T := "StopIteration") (b := true) ⟨o, ho, hc⟩ isSubtype_stop ?_)
  exact wpAny_pure (hQ _ he')
end

/-- what an enumerate draws from -/
structure Inner (cx : Cx) (it : Addr) (items : List PV) (dep : Hp → Prop) (St : Nat → Heap → Prop) : Prop where
  cls : ∀ k h, St k h → ∃ o n, h.get? it = some o ∧ o.cls = .type n ∧ n ≠ "tuple"
  frame : ∀ k h h', St k h → (∀ o, h.get? it = some o → h'.get? it = some o) → St k h'
  item : ∀ {A : Around} {k : Nat} {s : Shared} {H : Hp} {p : PV} {Q : Value → Shared → Prop} {E : Value → Shared → Prop}, A.handled = none → St k s.heap → Inv cx H s → dep H → items[k]? = some p →
    (∀ v h' tk, (St (k + 1) h' ∧ Rep cx h' v p) → KeepBut (fun b => b = it) s.heap h' → Q v { s with heap := h', toks := tk }) → wpAny (model cx.prog cx.w) A (Builtin.SmallTypes.nextOf (.ref it)) Q E s
  done : ∀ {A : Around} {k : Nat} {s : Shared} {H : Hp} {Q : Value → Shared → Prop} {E : Value → Shared → Prop}, A.handled = none → St k s.heap → Inv cx H s → dep H → items[k]? = none →
    (∀ h' x, Heap.ExtBut it s.heap h' → (∃ o, h'.get? x = some o ∧ o.cls = .type "StopIteration") → E (.ref x) { s with heap := h' }) → wpAny (model cx.prog cx.w) A (Builtin.SmallTypes.nextOf (.ref it)) Q E s

theorem enumL_get : ∀ (l : List PV) (k i : Nat), (enumL k l)[i]? = (l[i]?).map fun x => .tup [.int ((k + i : Nat) : Int), x]
  | [], k, i => by simp [enumL]
  | x :: xs, k, 0 => by simp [enumL]
  | x :: xs, k, i + 1 => by
    simp only [enumL, List.getElem?_cons_succ]
    rw [enumL_get xs (k + 1) i, show k + 1 + i = k + (i + 1) by omega]
theorem enumL_length : ∀ (l : List PV) (k : Nat), (enumL k l).length = l.length
  | [], _ => rfl
  | _ :: xs, k => by simp [enumL, enumL_length xs]

noncomputable def isTupleT : Expr → Prop
  | .Tuple .. => True
  | _ => False

section
variable {cx : Cx}
theorem Walk.enum {it : Addr} {items : List PV} {dep : Hp → Prop} {S : Nat → Heap → Prop} (D : Inner cx it items dep S) (e : Addr) (hne : e ≠ it) :
    Walk cx e (enumL 0 items) dep isTupleT (fun b => b = e ∨ b = it) (fun k h => (∃ old, IsEnum h e it (k : Nat) old) ∧ S k h) (fun k v h => (∃ x a, v = .ref a ∧ IsEnumOut h e it (k : Nat) x a) ∧ S k h) where
  own := .inl rfl
  live := fun k h b st hb => by
    obtain ⟨⟨old, he⟩, hS⟩ := st
    rcases hb with rfl | rfl
    · rw [he]; simp
    · obtain ⟨o, n, ho, _⟩ := D.cls k h hS; rw [ho]; simp
  noTup := fun k h st b hb vs n e' => by
    obtain ⟨⟨old, he⟩, hS⟩ := st
    rcases hb with rfl | rfl
    · exact noTup_single he rfl (by decide) _ rfl vs n e'
    · obtain ⟨o, n', ho, hc, hn⟩ := D.cls k h hS; exact noTup_single ho hc hn _ rfl vs n e'
  midTup := fun k v h st b hb vs n e' => by
    obtain ⟨⟨x, a, rfl, he⟩, hS⟩ := st
    rcases hb with rfl | rfl
    · exact noTup_single he rfl (by decide) _ rfl vs n e'
    · obtain ⟨o, n', ho, hc, hn⟩ := D.cls k h hS; exact noTup_single ho hc hn _ rfl vs n e'
  frame := fun k h h' st hk _ => by
    obtain ⟨⟨old, he⟩, hS⟩ := st
    exact ⟨⟨old, hk e _ (.inl rfl) he⟩, D.frame k h h' hS fun o ho => hk it o (.inr rfl) ho⟩
  item := fun {A k s H p Q E} hh st i hd hw hp q => by
    obtain ⟨⟨old, he⟩, hS⟩ := st
    rw [enumL_get] at hp
    cases hx : items[k]? with
    | none => rw [hx] at hp; simp at hp
    | some x =>
      rw [hx] at hp
      simp only [Option.map_some, Option.some.injEq, Nat.zero_add] at hp
      subst hp
      refine enum_next (P := fun v h' => S (k + 1) h' ∧ Rep cx h' v x) he hne (fun Q' E' hq => D.item hh hS i hd hx hq) fun v h₁ h' a t tk hP k₁ k₂ ho ht ha => ?_
      have rv : Rep cx h' v x := rep_single (k₁ e _ hne he) rfl (by decide) k₂ hP.2
      refine q _ _ ⟨_, _, rfl⟩ (fun b o hb e' => ?_) ⟨⟨v, a, rfl, ?_⟩, D.frame _ _ _ hP.1 fun o ho' => k₂ it o (Ne.symm hne) ho'⟩ ?_
      · exact k₂ b o (fun h => hb (.inl h)) (k₁ b o (fun h => hb (.inr h)) e')
      · exact ho
      · simp only [Rep]
        exact ⟨a, _, 0, rfl, ht, by simp only [RepL, Rep]; exact ⟨⟨t, rfl⟩, rv, trivial⟩⟩
  done := fun {A k s H Q E} hh st i hd hw hp hk q => by
    obtain ⟨⟨old, he⟩, hS⟩ := st
    have hx : items[k]? = none := by
      rw [enumL_get] at hp
      cases hx : items[k]? with
      | none => rfl
      | some x => rw [hx] at hp; simp at hp
    exact enum_end he (fun Q' E' hq => D.done hh hS i hd hx hq) fun h' he' => q _ (same_heap _ _) fun b o hb e' => he' b o (fun h => hb (.inr h)) e'
  self := fun {A k s Q E} st q => by
    obtain ⟨⟨old, he⟩, hS⟩ := st
    have hT : s.TypeIs (.ref e) "enumerate" := ⟨_, he, rfl⟩
    refine wpAny_pyIter_slot hT F.slot_enumerate_iter (wpAny_call_entry F.slot_enumerate_iter hT F.entry_enumerate_iter ?_ (F.args_enumerate_iter_1 _))
    exact wpAny_pure ⟨_, rfl, "enumerate", _, hT, F.slot_enumerate_next.lookup, q⟩
  lot := fun {A k s t v Q E} ht st q => by
    obtain ⟨⟨x, a, rfl, he⟩, hS⟩ := st
    cases t <;> simp only [isTupleT] at ht
    refine wpAny_letOwnedTupleGo_enum he fun h' he' hs' => q _ (same_heap _ _) (fun b o hb e' => hs'.extBut b o (fun h => hb (.inl h)) e') ⟨⟨x, he'⟩, D.frame _ _ _ hS fun o ho => hs'.extBut _ _ (Ne.symm hne) ho⟩

theorem Inner.list (it a : Addr) (l : List PV) : Inner cx it l (fun H => H a = some (.list l)) (fun k h => h.IsListIter it a k) where
  cls := fun k h st => by obtain ⟨o, ho, hc, _⟩ := st; exact ⟨o, _, ho, hc, by decide⟩
  frame := fun k h h' st hk => by obtain ⟨o, ho, r⟩ := st; exact ⟨o, hk o ho, r⟩
  item := fun {A k s H p Q E} hh st i hd hp q => by
    obtain ⟨vs, n, ho, rl⟩ := holds_list (i.ok a _ hd)
    obtain ⟨v, hv, rv⟩ := repL_get rl hp
    obtain ⟨o, hoI, hc, _⟩ := id st
    refine wpAny_nextOf_list_item st ⟨_, ho, rfl, n, rfl⟩ (by simpa using hv) fun h' hit hs => ?_
    exact q v _ _ ⟨hit, rep_single hoI hc (by decide) (keep_same hs) rv⟩ (keep_same hs)
  done := fun {A k s H Q E} hh st i hd hp q => by
    obtain ⟨vs, n, ho, rl⟩ := holds_list (i.ok a _ hd)
    have := repL_length rl
    refine wpAny_nextOf_list_end hh st ⟨_, ho, rfl, n, rfl⟩ ?_ q
    simp only [List.getElem?_eq_none_iff] at hp
    simp only [Array.length_toList] at this
    simp; omega

theorem Inner.str (it : Addr) (x : Str) (t : Tok) : Inner cx it (chars x) (fun _ => True) (fun k h => h.IsStrIter it (strIterType x) x t k) where
  cls := fun k h st => by obtain ⟨o, ho, hc, _⟩ := st; exact ⟨o, _, ho, hc, by unfold strIterType; split <;> decide⟩
  frame := fun k h h' st hk => by obtain ⟨o, ho, r⟩ := st; exact ⟨o, hk o ho, r⟩
  item := fun {A k s H p Q E} hh st i hd hp q => by
    unfold chars at hp
    rw [List.getElem?_map] at hp
    cases hx : x.cps.toList[k]? with
    | none => rw [hx] at hp; simp at hp
    | some c =>
      rw [hx] at hp
      simp only [Option.map_some, Option.some.injEq] at hp
      subst hp
      have hx' : x.cps[k]? = some c := by simpa using hx
      cases ha : x.cps.all (· < 128)
      · have e : strIterType x = "str_iterator" := by simp [strIterType, ha]
        rw [e] at st q
        exact wpAny_nextOf_wide_item st hx' fun h' hit hs => q _ _ _ ⟨hit, by simp [Rep, chr]⟩ (keep_same hs)
      · have e : strIterType x = "str_ascii_iterator" := by simp [strIterType, ha]
        rw [e] at st q
        exact wpAny_nextOf_ascii_item st hx' fun h' hit hs => q _ _ _ ⟨hit, by simp [Rep, chr]⟩ (keep_same hs)
  done := fun {A k s H Q E} hh st i hd hp q => by
    have hx' : x.cps[k]? = none := by
      unfold chars at hp
      rw [List.getElem?_map] at hp
      cases hx : x.cps.toList[k]? with
      | none => simpa using hx
      | some c => rw [hx] at hp; simp at hp
    cases ha : x.cps.all (· < 128)
    · have e : strIterType x = "str_iterator" := by simp [strIterType, ha]
      rw [e] at st
      exact wpAny_nextOf_wide_end hh st hx' q
    · have e : strIterType x = "str_ascii_iterator" := by simp [strIterType, ha]
      rw [e] at st
      exact wpAny_nextOf_ascii_end hh st hx' q
end

end Mine
end

/-! M8a -/
section
set_option autoImplicit false
namespace Mine
open PySem PyProof.Rows

section
variable {cx : Cx} {c : CE} {env : Env} {σ σ' : List (Option PV)} {H : Hp} {s : Shared} {A : Around} {E : Value → Shared → Prop}

/-- which target belongs to which mini target -/
inductive Tgt (c : CE) : Expr → MTgt → Prop
  | var {x : Str} {px : Pos} {i : Nat} : c.tab.lookup x = some i → Tgt c (.Name x px) (.var i)
  | two {x y : Str} {px py pos : Pos} {k i j : Nat} : c.tab.lookup x = some i → c.tab.lookup y = some j → i ≠ j → Tgt c (.Tuple [.Name x px, .Name y py] k pos) (.two i j)

theorem tgt_of {e : Expr} {t : MTgt} (h : cTgt2 c e = some t) : Tgt c e t := by
  unfold cTgt2 at h
  split at h
  · rename_i x p
    cases hl : c.tab.lookup x with
    | none => rw [hl] at h; simp at h
    | some i => rw [hl] at h; simp only [Option.map_some, Option.some.injEq] at h; subst h; exact .var hl
  · rename_i x p y p' k pos
    split at h
    · rename_i i j h1 h2
      split at h
      · cases h
      · rename_i hne
        injection h with h
        subst h
        exact .two h1 h2 (by simpa using hne)
    · cases h
  · cases h

noncomputable def MTgt.has : MTgt → Nat → Prop
  | .var i, k => k = i
  | .two i j, k => k = i ∨ k = j

theorem assign_tgt {e : Expr} {t : MTgt} {v : Value} {p : PV} {Q : Unit → Shared → Prop} {F : Addr → Prop} (fx : FxOk cx c env) (a : At cx c env σ H s) (hh : A.handled = none) (ht : Tgt c e t) (r : Rep cx s.heap v p) (hb : bindT σ t p = some σ')
    (hF : ∀ x i, c.tab.lookup x = some i → t.has i → ∀ ad, Fset env ad → (env.kindOf x = some .local → ad = env.locals) → F ad)
    (q : ∀ s', At cx c env σ' H s' → Step F s H s' H → Q () s') : wpAny (model cx.prog cx.w) A (assign e env v) Q E s := by
  cases ht with
  | @var x px i hx =>
    simp only [bindT, Option.some.injEq] at hb
    subst hb
    refine wpAny_assign_Name (store_var fx a hx r fun ad s' had hl a' st => q s' a' (st.mono fun b hb' => ?_))
    subst hb'
    exact hF x i hx rfl b had hl
  | @two x y px py pos k i j hx hy hij =>
    match p, hb with
    | .tup [p1, p2], hb =>
      simp only [bindT, Option.some.injEq] at hb
      subst hb
      obtain ⟨t, vs, n, rfl, ho, rl⟩ := rep_tup r
      obtain ⟨v1, v2, hvs, r1, r2⟩ := repL_two rl
      refine assign_Tuple_tuple hh (isTup_of ho) ?_ rfl fun h' he => ?_
      · have : vs.toList.length = 2 := by rw [hvs]; rfl
        show 2 = vs.size
        simpa using this.symm
      · rw [hvs]
        have hk : ∀ b o, s.heap.get? b = some o → h'.get? b = some o := fun b o e => he b o (Nat.ne_of_lt (Heap.lt_size e)) e
        have st0 : Step noF s H { s with heap := h' } H := .grown ⟨h', s.toks, rfl⟩ hk
        have a0 := a.step st0 (a.inv.grown hk)
        refine assignInOrder_cons (wpAny_assign_Name (store_var fx a0 hx (rep_grown hk r1) fun ad s₁ had hl a₁ st₁ => ?_))
        have r2' : Rep cx s₁.heap v2 p2 := rep_keep (st₁.tups a0.inv fun b hb vs n => by subst hb; exact a0.fr.noTup b had vs n) _ (rep_grown hk r2)
        refine assignInOrder_cons (wpAny_assign_Name (store_var fx a₁ hy r2' fun ad' s₂ had' hl' a₂ st₂ => assignInOrder_nil ?_))
        refine q s₂ a₂ (Step.trans (Step.trans (st0.up) (st₁.mono fun b hb' => ?_)) (st₂.mono fun b hb' => ?_))
        · subst hb'; exact hF x i hx (.inl rfl) b had hl
        · subst hb'; exact hF y j hy (.inr rfl) b had' hl'
end

end Mine
end

/-! M8b -/
section
set_option autoImplicit false
namespace Mine
open PySem PyProof.Rows

/-! ## a comprehension's own block -/
section
variable {cx : Cx} {c : CE} {env : Env}

theorem lookup_of_mem {α : Type} : ∀ {l : List (Str × α)} {x : Str} {a : α}, (l.map (·.1)).Nodup → (x, a) ∈ l → l.lookup x = some a
  | (y, b) :: r, x, a, nd, hm => by
    rw [List.map_cons, List.nodup_cons] at nd
    rcases List.mem_cons.mp hm with e | hm'
    · cases e; simp
    · have : x ≠ y := fun e => nd.1 (e ▸ List.mem_map.mpr ⟨(x, a), hm', rfl⟩)
      rw [List.lookup_cons]
      have hb : (x == y) = false := by simpa using this
      rw [hb]
      exact lookup_of_mem nd.2 hm'

theorem closure_go (fx : FxOk cx c env) : ∀ (names : List (Str × NameKind)) (acc : List (Str × Addr)), (∀ x ∈ names, x.2 = .free → ∃ a, env.cells.lookup x.1 = some a) →
    ∃ cl, (forIn names acc fun (x : Str × NameKind) (cs : List (Str × Addr)) => (do if x.2 == .free then (do let a ← cellOf env x.1; pure (ForInStep.yield ((x.1, a) :: cs))) else pure (ForInStep.yield cs) : Sem (ForInStep (List (Str × Addr))))) = pure cl ∧
      (∀ y, y ∈ cl → y ∈ acc ∨ env.cells.lookup y.1 = some y.2 ∧ (y.1, NameKind.free) ∈ names) ∧ (∀ y, y ∈ acc → y ∈ cl) ∧ (∀ x, (x, NameKind.free) ∈ names → ∃ a, (x, a) ∈ cl ∧ env.cells.lookup x = some a) ∧
      ((acc.map (·.1)).Nodup → (names.map (·.1)).Nodup → (∀ y ∈ acc, y.1 ∉ names.map (·.1)) → (cl.map (·.1)).Nodup)
  | [], acc, _ => ⟨acc, rfl, fun y hy => .inl hy, fun y hy => hy, fun x hx => by simp at hx, fun h _ _ => h⟩
  | (n, k) :: r, acc, h => by
    by_cases hk : k = .free
    · subst hk
      obtain ⟨a, ha⟩ := h (n, .free) List.mem_cons_self rfl
      obtain ⟨cl, e, h1, h2, h3, h4⟩ := closure_go fx r ((n, a) :: acc) fun x hx hf => h x (List.mem_cons_of_mem _ hx) hf
      refine ⟨cl, ?_, ?_, fun y hy => h2 y (List.mem_cons_of_mem _ hy), ?_, ?_⟩
      · rw [List.forIn_cons]
        simp only [beq_self_eq_true, if_true]
        unfold cellOf
        rw [ha]
        exact e
      · intro y hy
        rcases h1 y hy with h' | ⟨h', h''⟩
        · rcases List.mem_cons.mp h' with e' | h'
          · subst e'; exact .inr ⟨ha, List.mem_cons_self⟩
          · exact .inl h'
        · exact .inr ⟨h', List.mem_cons_of_mem _ h''⟩
      · intro x hx
        rcases List.mem_cons.mp hx with e' | hx
        · injection e' with e1 e2; subst e1; exact ⟨a, h2 _ List.mem_cons_self, ha⟩
        · exact h3 x hx
      · intro n1 n2 n3
        rw [List.map_cons, List.nodup_cons] at n2
        refine h4 ?_ n2.2 ?_
        · rw [List.map_cons, List.nodup_cons]
          refine ⟨fun hm => ?_, n1⟩
          obtain ⟨y, hy, e'⟩ := List.mem_map.mp hm
          exact n3 y hy (by rw [e']; exact List.mem_cons_self)
        · intro y hy
          rcases List.mem_cons.mp hy with e' | hy
          · subst e'; exact n2.1
          · exact fun hm => n3 y hy (List.mem_cons_of_mem _ hm)
    · obtain ⟨cl, e, h1, h2, h3, h4⟩ := closure_go fx r acc fun x hx hf => h x (List.mem_cons_of_mem _ hx) hf
      refine ⟨cl, ?_, ?_, h2, ?_, ?_⟩
      · rw [List.forIn_cons]
        have : (k == NameKind.free) = false := by simpa using hk
        simp only [this, Bool.false_eq_true, if_false]
        exact e
      · intro y hy
        exact (h1 y hy).imp id fun h => ⟨h.1, List.mem_cons_of_mem _ h.2⟩
      · intro x hx
        rcases List.mem_cons.mp hx with e' | hx
        · injection e' with e1 e2; exact absurd e2.symm hk
        · exact h3 x hx
      · intro n1 n2 n3
        rw [List.map_cons, List.nodup_cons] at n2
        exact h4 n1 n2.2 fun y hy hm => n3 y hy (List.mem_cons_of_mem _ hm)

theorem closure_of (fx : FxOk cx c env) {scope : Scope} (hf : ∀ x ∈ scope.names, x.2 = .free → ∃ a, env.cells.lookup x.1 = some a) (nd : (scope.names.map (·.1)).Nodup) :
    ∃ cl, closureFor scope env = pure cl ∧ (∀ y ∈ cl, env.cells.lookup y.1 = some y.2) ∧ (∀ x, (x, NameKind.free) ∈ scope.names → ∃ a, cl.lookup x = some a ∧ env.cells.lookup x = some a) ∧ (cl.Pairwise fun x y => x.2 ≠ y.2) := by
  obtain ⟨cl, e, h1, h2, h3, h4⟩ := closure_go fx scope.names [] hf
  have nd' := h4 (by simp) nd (by simp)
  have hsub : ∀ y ∈ cl, env.cells.lookup y.1 = some y.2 := fun y hy => by
    rcases h1 y hy with h | h
    · simp at h
    · exact h.1
  refine ⟨cl, ?_, hsub, fun x hx => ?_, ?_⟩
  · unfold closureFor
    have : (forIn scope.names ([] : List (Str × Addr)) fun (x : Str × NameKind) (cs : List (Str × Addr)) => (do if x.2 == .free then (do let a ← cellOf env x.1; pure (ForInStep.yield ((x.1, a) :: cs))) else pure (ForInStep.yield cs) : Sem (ForInStep (List (Str × Addr))))) >>= pure = (pure cl : Sem _) := by
      rw [e]; rfl
    exact this
  · obtain ⟨a, ha, hb⟩ := h3 x hx
    exact ⟨a, lookup_of_mem nd' ha, hb⟩
  · rw [List.Nodup, List.pairwise_map] at nd'
    refine List.Pairwise.imp_of_mem (fun {x y} hx hy hne => ?_) nd'
    intro e'
    refine hne ?_
    have a1 := hsub x hx
    have a2 := hsub y hy
    rw [e'] at a1
    exact name_of_addr fx.apart (mem_of_lookup a1) (mem_of_lookup a2)
end

end Mine
end

/-! M8c -/
section
set_option autoImplicit false
namespace Mine
open PySem PyProof.Rows

section
variable {cx : Cx} {c c' : CE} {env : Env} {scope : Scope} {t : Expr} {mt : MTgt}

structure CompOk (c : CE) (scope : Scope) (t : Expr) (c' : CE) (mt : MTgt) : Prop where
  nd : (scope.names.map (·.1)).Nodup
  kind : scope.kind = .function
  free : ∀ n, (n, NameKind.free) ∈ scope.names → c.names.lookup n = some .cell ∧ ∃ i, c.tab.lookup n = some i
  nocell : ∀ x ∈ scope.names, x.2 ≠ .cell
  names : c'.names = compNames c scope.names
  next : c'.next = c.next + 2
  tgt : Tgt c' t mt
  tloc : ∀ x i, c'.tab.lookup x = some i → (mt.has i → scope.names.lookup x = some .local) ∧ (i < c.next → (x, NameKind.free) ∈ scope.names ∧ c.tab.lookup x = some i) ∧ (i < c.next ∨ mt.has i)
  big : ∀ i, mt.has i → c.next ≤ i ∧ i < c.next + 2
  inj : ∀ x y i, mt.has i → c'.tab.lookup x = some i → c'.tab.lookup y = some i → x = y

theorem freeTab_lookup : ∀ (names : List (Str × NameKind)) {x : Str} {i : Nat}, (freeTab c names).lookup x = some i → (x, NameKind.free) ∈ names ∧ c.tab.lookup x = some i
  | [], x, i, h => by simp [freeTab] at h
  | (n, k) :: r, x, i, h => by
    unfold freeTab at h
    rw [List.filterMap_cons] at h
    have ih := @freeTab_lookup r x i
    unfold freeTab at ih
    by_cases hk : k = .free
    · subst hk
      simp only [beq_self_eq_true, if_true] at h
      cases ht : c.tab.lookup n with
      | none => rw [ht] at h; simp only [Option.map_none] at h; exact (ih h).imp (List.mem_cons_of_mem _) id
      | some j =>
        rw [ht] at h
        simp only [Option.map_some] at h
        rw [List.lookup_cons] at h
        cases hb : x == n with
        | true =>
          rw [hb] at h
          injection h with h
          have := beq_iff_eq.mp hb
          subst this h
          exact ⟨List.mem_cons_self, ht⟩
        | false => rw [hb] at h; exact (ih h).imp (List.mem_cons_of_mem _) id
    · have hb : (k == NameKind.free) = false := by simpa using hk
      simp only [hb, Bool.false_eq_true, if_false] at h
      exact (ih h).imp (List.mem_cons_of_mem _) id

theorem compOk_of (fx : FxOk cx c env) (h : compCE c scope t = some (c', mt)) : CompOk c scope t c' mt := by
  unfold compCE at h
  split at h
  case h_2 => cases h
  rename_i xs hxs
  split at h
  case isFalse => cases h
  rename_i hc
  simp only [Bool.and_eq_true, decide_eq_true_eq, List.all_eq_true, beq_iff_eq, Bool.or_eq_true] at hc
  obtain ⟨⟨⟨h1, h2⟩, h3⟩, h4⟩ := hc
  have hfree : ∀ n, (n, NameKind.free) ∈ scope.names → c.names.lookup n = some .cell ∧ ∃ i, c.tab.lookup n = some i := fun n hn => by
    have := h3 (n, .free) hn
    simp only [reduceCtorEq, false_and, true_and, or_false, false_or, and_false] at this
    exact ⟨this.1.1, Option.isSome_iff_exists.mp this.1.2⟩
  have hnc : ∀ x ∈ scope.names, x.2 ≠ .cell := fun x hx e => by
    have := h3 x hx
    rw [e] at this
    simp at this
  have hlocfree : ∀ x, scope.names.lookup x = some .local → (x, NameKind.free) ∉ scope.names := fun x hx hm => by
    have := lookup_of_mem h1 hm
    rw [hx] at this
    simp at this
  match xs, hxs, h, h4 with
  | [x], hxs, h, h4 =>
    simp only [Option.some.injEq, Prod.mk.injEq] at h
    obtain ⟨rfl, rfl⟩ := h
    have hx : scope.names.lookup x = some .local := h4 x (by simp)
    have look : ∀ y i, ((x, c.next) :: freeTab c scope.names).lookup y = some i → (y = x ∧ i = c.next) ∨ (y ≠ x ∧ (y, NameKind.free) ∈ scope.names ∧ c.tab.lookup y = some i) := fun y i hy => by
      rw [List.lookup_cons] at hy
      cases hb : y == x with
      | true => rw [hb] at hy; injection hy with hy; exact .inl ⟨beq_iff_eq.mp hb, hy.symm⟩
      | false => rw [hb] at hy; exact .inr ⟨by simpa using hb, freeTab_lookup _ hy⟩
    refine ⟨h1, h2, hfree, hnc, rfl, rfl, ?_, fun y i hy => ⟨fun hi => ?_, fun hi => ?_, ?_⟩, fun i hi => ?_, fun y z i hi hy hz => ?_⟩
    · unfold tgtNames at hxs
      split at hxs
      · injection hxs with hxs; injection hxs with hxs; subst hxs; exact .var (by simp)
      · split at hxs <;> simp at hxs
      · cases hxs
    · have hi' : i = c.next := hi
      rcases look y i hy with ⟨rfl, _⟩ | ⟨_, _, h'⟩
      · exact hx
      · have := fx.below y i h'; omega
    · rcases look y i hy with ⟨_, rfl⟩ | ⟨_, h'⟩
      · omega
      · exact h'
    · rcases look y i hy with ⟨_, rfl⟩ | ⟨_, _, h'⟩
      · exact .inr rfl
      · exact .inl (fx.below y i h')
    · have hi' : i = c.next := hi; omega
    · have hi' : i = c.next := hi
      rcases look y i hy with ⟨rfl, _⟩ | ⟨_, _, h'⟩
      · rcases look z i hz with ⟨rfl, _⟩ | ⟨_, _, h'⟩
        · rfl
        · have := fx.below z i h'; omega
      · have := fx.below y i h'; omega
  | [x, y], hxs, h, h4 =>
    simp only [Option.some.injEq, Prod.mk.injEq] at h
    obtain ⟨rfl, rfl⟩ := h
    have hx : scope.names.lookup x = some .local := h4 x (by simp)
    have hy' : scope.names.lookup y = some .local := h4 y (by simp)
    have look : ∀ z i, ((x, c.next) :: (y, c.next + 1) :: freeTab c scope.names).lookup z = some i → (z = x ∧ i = c.next) ∨ (z ≠ x ∧ z = y ∧ i = c.next + 1) ∨ (z ≠ x ∧ z ≠ y ∧ (z, NameKind.free) ∈ scope.names ∧ c.tab.lookup z = some i) := fun z i hz => by
      rw [List.lookup_cons] at hz
      cases hb : z == x with
      | true => rw [hb] at hz; injection hz with hz; exact .inl ⟨beq_iff_eq.mp hb, hz.symm⟩
      | false =>
        rw [hb] at hz
        simp only at hz
        rw [List.lookup_cons] at hz
        cases hb' : z == y with
        | true => rw [hb'] at hz; injection hz with hz; exact .inr (.inl ⟨by simpa using hb, beq_iff_eq.mp hb', hz.symm⟩)
        | false => rw [hb'] at hz; exact .inr (.inr ⟨by simpa using hb, by simpa using hb', freeTab_lookup _ hz⟩)
    have hxy : x ≠ y ∧ ∃ px py k pos, t = .Tuple [.Name x px, .Name y py] k pos := by
      unfold tgtNames at hxs
      split at hxs
      · simp at hxs
      · split at hxs
        · cases hxs
        · rename_i hne
          injection hxs with hxs
          injection hxs with e1 e2
          injection e2 with e2 _
          subst e1 e2
          exact ⟨by simpa using hne, _, _, _, _, rfl⟩
      · cases hxs
    obtain ⟨hne, px, py, k, pos, rfl⟩ := hxy
    have hyx : (y == x) = false := by simpa using Ne.symm hne
    refine ⟨h1, h2, hfree, hnc, rfl, rfl, ?_, fun z i hz => ⟨fun hi => ?_, fun hi => ?_, ?_⟩, fun i hi => ?_, fun z z' i hi hz hz' => ?_⟩
    · exact .two (by simp) (by rw [List.lookup_cons, hyx]; simp) (by omega)
    · have hi' : i = c.next ∨ i = c.next + 1 := hi
      rcases look z i hz with ⟨rfl, _⟩ | ⟨_, rfl, _⟩ | ⟨_, _, _, h'⟩
      · exact hx
      · exact hy'
      · have := fx.below z i h'; omega
    · rcases look z i hz with ⟨_, rfl⟩ | ⟨_, _, rfl⟩ | ⟨_, _, h'⟩
      · omega
      · omega
      · exact h'
    · rcases look z i hz with ⟨_, rfl⟩ | ⟨_, _, rfl⟩ | ⟨_, _, _, h'⟩
      · exact .inr (.inl rfl)
      · exact .inr (.inr rfl)
      · exact .inl (fx.below z i h')
    · have hi' : i = c.next ∨ i = c.next + 1 := hi; omega
    · have hi' : i = c.next ∨ i = c.next + 1 := hi
      rcases look z i hz with ⟨rfl, e⟩ | ⟨_, rfl, e⟩ | ⟨_, _, _, h'⟩
      · rcases look z' i hz' with ⟨rfl, _⟩ | ⟨_, _, e'⟩ | ⟨_, _, _, h'⟩
        · rfl
        · omega
        · have := fx.below z' i h'; omega
      · rcases look z' i hz' with ⟨_, e'⟩ | ⟨_, rfl, _⟩ | ⟨_, _, _, h'⟩
        · omega
        · rfl
        · have := fx.below z' i h'; omega
      · have := fx.below z i h'; omega
  | [], hxs, h, h4 => simp at h
  | _ :: _ :: _ :: _, hxs, h, h4 => simp at h

theorem lookup_compNames_free (nd : ∀ n, (n, NameKind.free) ∈ scope.names → c.names.lookup n = some .cell) : ∀ {names : List (Str × NameKind)} {x : Str}, (names.map (·.1)).Nodup → (∀ y ∈ names, y ∈ scope.names) → (x, NameKind.free) ∈ names → (compNames c names).lookup x = some .cell
  | (n, k) :: r, x, hn, hsub, hm => by
    rw [List.map_cons, List.nodup_cons] at hn
    unfold compNames
    rw [List.map_cons]
    rcases List.mem_cons.mp hm with e | hm'
    · cases e
      have := nd _ (hsub _ List.mem_cons_self)
      simp [this]
    · have hne : x ≠ n := fun e => hn.1 (e ▸ List.mem_map.mpr ⟨(x, NameKind.free), hm', rfl⟩)
      have hb : (x == n) = false := by simpa using hne
      have ih := lookup_compNames_free nd hn.2 (fun y hy => hsub y (List.mem_cons_of_mem _ hy)) hm'
      unfold compNames at ih
      by_cases hc : (k == .free && c.names.lookup n == some .cell) = true
      · dsimp only; rw [if_pos hc, List.lookup_cons, hb]; exact ih
      · dsimp only; rw [if_neg hc, List.lookup_cons, hb]; exact ih

theorem relabel_names (fx : FxOk cx c env) : (relabel scope env).names = compNames c scope.names := by
  unfold relabel compNames
  simp only
  apply List.map_congr_left
  intro x _
  obtain ⟨n, k⟩ := x
  have e1 : (env.scope.kind == .function) = true := by rw [fx.kind]; rfl
  have e2 : env.kindOf n = c.names.lookup n := by unfold Env.kindOf; rw [fx.names]
  simp only [e1, e2, Bool.and_true]

theorem fx_comp (fx : FxOk cx c env) (co : CompOk c scope t c' mt) {cl : List (Str × Addr)} {C : Addr} (hcl : ∀ y ∈ cl, env.cells.lookup y.1 = some y.2)
    (hfr : ∀ x, (x, NameKind.free) ∈ scope.names → ∃ a, cl.lookup x = some a ∧ env.cells.lookup x = some a) (hp : cl.Pairwise fun x y => x.2 ≠ y.2) (hC : ∀ x a, env.cells.lookup x = some a → a ≠ C) :
    FxOk cx c' (compEnvC scope cl C env) where
  kind := co.kind
  names := by rw [co.names]; exact relabel_names fx
  globals := fx.globals
  builtins := fx.builtins
  vars := fun x i hx => by
    obtain ⟨h1, h2, h3⟩ := co.tloc x i hx
    rcases h3 with h3 | h3
    · obtain ⟨hm, ht⟩ := h2 h3
      refine .inr ⟨?_, ?_⟩
      · show (relabel scope env).names.lookup x = _
        rw [relabel_names fx]
        exact lookup_compNames_free (fun n hn => (co.free n hn).1) co.nd (fun _ h => h) hm
      · obtain ⟨a, ha, _⟩ := hfr x hm; exact ⟨a, ha⟩
    · refine .inl ?_
      exact lookup_relabel_local (h1 h3)
  inj := fun x y i hx hy => by
    obtain ⟨_, h2, h3⟩ := co.tloc x i hx
    obtain ⟨_, h2', h3'⟩ := co.tloc y i hy
    rcases h3 with h3 | h3
    · rcases h3' with h3' | h3'
      · exact fx.inj x y i (h2 h3).2 (h2' h3').2
      · have := co.big i h3'; omega
    · exact co.inj x y i h3 hx hy
  apart := hp
  cloc := fun x a hx => hC x a (hcl (x, a) (mem_of_lookup hx))
  below := fun x i hx => by
    rw [co.next]
    obtain ⟨_, _, h3⟩ := co.tloc x i hx
    rcases h3 with h3 | h3
    · omega
    · exact (co.big i h3).2

theorem at_comp {σ : List (Option PV)} {H : Hp} {s : Shared} {m : Str → Option Value} (fx : FxOk cx c env) (co : CompOk c scope t c' mt) (a : At cx c env σ H s) {cl : List (Str × Addr)} {C : Addr} (hcl : ∀ y ∈ cl, env.cells.lookup y.1 = some y.2)
    (hfr : ∀ x, (x, NameKind.free) ∈ scope.names → ∃ a, cl.lookup x = some a ∧ env.cells.lookup x = some a)
    (hn : s.heap.Ns C m) (hH : H C = none) (hb : ∀ o, ¬ cx.base C o) : At cx c' (compEnvC scope cl C env) (σ ++ [none, none]) H s := by
  obtain ⟨m₀, cm, hn₀, hc₀, hv₀⟩ := a.fr
  refine ⟨a.inv, ⟨m, cm, hn, fun x ad hx => hc₀ x ad (hcl (x, ad) (mem_of_lookup hx)), fun x i p hx hi => ?_⟩, fun ad had => ?_, fun ad o had => ?_, by rw [List.length_append, a.len, co.next]; rfl⟩
  · have hlt : i < σ.length := by
      rcases Nat.lt_or_ge i σ.length with h | h
      · exact h
      · rw [List.getElem?_append_right h] at hi
        have : i - σ.length = 0 ∨ i - σ.length = 1 ∨ 2 ≤ i - σ.length := by omega
        rcases this with e | e | e
        · rw [e] at hi; simp at hi
        · rw [e] at hi; simp at hi
        · rw [List.getElem?_eq_none (by simpa using e)] at hi; cases hi
    rw [List.getElem?_append_left hlt] at hi
    obtain ⟨_, h2, _⟩ := co.tloc x i hx
    obtain ⟨hm, ht⟩ := h2 (by rw [← a.len]; exact hlt)
    obtain ⟨v, h1, h3⟩ := hv₀ x i p ht hi
    refine ⟨v, ?_, h3⟩
    have e1 : env.kindOf x = some .cell := by unfold Env.kindOf; rw [fx.names]; exact (co.free x hm).1
    rw [if_neg (by rw [e1]; simp)] at h1
    have e2 : (compEnvC scope cl C env).kindOf x = some .cell := by
      show (relabel scope env).names.lookup x = _
      rw [relabel_names fx]
      exact lookup_compNames_free (fun n hn => (co.free n hn).1) co.nd (fun _ h => h) hm
    rw [if_neg (by rw [e2]; simp)]
    exact h1
  · rcases had with rfl | ⟨x, hx⟩
    · exact hH
    · exact a.apart ad (.inr ⟨x, hcl (x, ad) (mem_of_lookup hx)⟩)
  · rcases had with rfl | ⟨x, hx⟩
    · exact hb o
    · exact a.nbase ad o (.inr ⟨x, hcl (x, ad) (mem_of_lookup hx)⟩)
end

end Mine
end

/-! M8d -/
section
set_option autoImplicit false
namespace Mine
open PySem PyProof.Rows

section
variable {cx : Cx} {H H₀ : Hp} {s s₀ s' : Shared} {X : Addr → Prop}
theorem Inv.side (i : Inv cx H s) (k : KeepBut X s.heap s'.heap) (hH : ∀ a, X a → H a = none) (hb : ∀ a o, X a → ¬ cx.base a o) (nt : NoTup s.heap X) : Inv cx H s' :=
  ⟨fun b o e => k b o (fun h => hb b o h e) (i.base b o e), i.out, fun a o e => (i.ok a o e).keep (X := noF) (tup_keep nt k) fun ob e' => k a ob (fun h => by rw [hH a h] at e; cases e) e'⟩
theorem Step.side (st : Step noF s₀ H₀ s H) (hs : Same s s') (k : KeepBut X s.heap s'.heap) (hX : ∀ a, X a → s₀.heap.get? a = none) : Step noF s₀ H₀ s' H :=
  ⟨st.same.trans hs, fun b o hb e => k b o (fun h => by rw [hX b h] at e; cases e) (st.keep b o hb e), st.grow, fun a ha => by
    have h1 := st.live a ha
    cases e : s.heap.get? a with
    | none => exact absurd e h1
    | some o => rw [k a o (fun h => ha (hX a h)) e]; simp⟩
theorem Step.then (st : Step noF s₀ H₀ s H) {H' : Hp} {F : Addr → Prop} (st' : Step F s H s' H') (hF : ∀ a, F a → s₀.heap.get? a = none) : Step noF s₀ H₀ s' H' :=
  ⟨st.same.trans st'.same, fun b o hb e => st'.keep b o (fun h => h.elim (fun h => (st.grow b h).elim (fun h => hb (.inl h)) fun h => by rw [h] at e; cases e) fun h => by rw [hF b h] at e; cases e) (st.keep b o hb e),
    fun a ha => by
      rcases st'.grow a ha with h | h
      · exact st.grow a h
      · refine .inr ?_
        cases e : s₀.heap.get? a with
        | none => rfl
        | some o => exact absurd h (st.live a (by rw [e]; simp)),
    fun a ha => st'.live a (st.live a ha)⟩
/-- an object that was laid and is tracked from now on -/
theorem Inv.adopt {a : Addr} {o : AO} (i : Inv cx H s) (hb : ∀ o, ¬ cx.base a o) (ho : HoldsO cx s.heap a o) : Inv cx (upd H a o) s :=
  ⟨i.base, fun b ob e => by
      by_cases h : b = a
      · subst h; exact absurd e (hb ob)
      · rw [upd_ne _ _ h]; exact i.out b ob e,
    fun b ob e => by
      by_cases h : b = a
      · subst h; rw [upd_self] at e; cases e; exact ho
      · rw [upd_ne _ _ h] at e; exact i.ok b ob e⟩
theorem Step.adopt {a : Addr} {o : AO} (st : Step noF s₀ H₀ s H) (ha : s₀.heap.get? a = none) : Step noF s₀ H₀ s (upd H a o) :=
  ⟨st.same, st.keep, fun b hb => by
    by_cases h : b = a
    · subst h; exact .inr ha
    · rw [upd_ne _ _ h] at hb; exact st.grow b hb, st.live⟩
end

/-- what going through an iterable starts with -/
noncomputable def ItPost (cx : Cx) (s : Shared) (H : Hp) (tq : Expr → Prop) (Q : List PV → (Hp → Prop) → Hp → Prop) : Value → Shared → Prop := fun it s' =>
  ∃ I items dep tok wr St Mid H', it = .ref I ∧ Walk cx I items dep tok wr St Mid ∧ St 0 s'.heap ∧ Inv cx H' s' ∧ Step noF s H s' H' ∧ (∀ a, wr a → s.heap.get? a = none) ∧ (∀ a, wr a → H' a = none) ∧ (∀ e, tq e → tok e) ∧ Q items dep H'

section
variable {prog : Program} {w : World} {A : Around} {E : Value → Shared → Prop} {R : Result → Shared → Prop} {s : Shared}
theorem compLoop_any {elt target iter : Expr} {ifs : List Expr} {scope : Scope} {pos : Pos} {it acc : Value} {env : Env} (I : Nat → Shared → Prop)
    (turn : ∀ n s, I n s → wpAny (model prog w) A (pyNext it) (fun r s₁ => match r with
      | none => R (.ok .next) s₁
      | some v => wpAny (model prog w) A (letOwnedTupleGo target it v) (fun _ s₁' => wpAny (model prog w) A (assign target env v) (fun _ s₂ =>
          wpAny (model prog w) A (forIn ifs true fun c r => if r = true then do let ok ← isTrue c env (eval c env); pure (ForInStep.yield ok) else pure (ForInStep.yield r)) (fun ok s₃ =>
            if ok = true then wpAny (model prog w) A (eval elt env) (fun x s₄ =>
              wpAny (model prog w) A (call (.builtin "list.append") [acc, x]) (fun _ s₅ => ∃ m, m < n ∧ I m s₅) (fun _ _ => False) s₄) (fun _ _ => False) s₃
            else ∃ m, m < n ∧ I m s₃) (fun _ _ => False) s₂) (fun _ _ => False) s₁') (fun _ _ => False) s₁) (fun _ _ => False) s)
    (n : Nat) (h : I n s) :
    codeAny (model prog w) A (.compLoop (.ListComp elt [⟨target, iter, ifs, 0⟩] scope pos) 0 it acc env) R s := by
  refine codeAny_loop rfl I (fun n s hI => ?_) n h
  show wpAny _ A ((compTurn (.ListComp elt [⟨target, iter, ifs, 0⟩] scope pos) 0 it acc env).onRaise (fun x => do noteFrame x env; theTreesLotGoes x)) _ _ s
  refine wpAny_noted ?_
  rw [compTurn_list]
  refine wpAny_bind (wpAny_standAt (wpAny_bind (wpAny_mono (turn n s hI) (fun r s₁ h₁ => ?_) fun _ _ h' => h'.elim)))
  cases r with
  | none => exact wpAny_pure h₁
  | some v =>
    refine wpAny_bind (wpAny_mono h₁ (fun _ s₁' h₁' => ?_) fun _ _ h' => h'.elim)
    refine wpAny_bind (wpAny_mono h₁' (fun _ s₂ h₂ => wpAny_bind (wpAny_mono h₂ (fun ok s₃ h₃ => ?_) fun _ _ h' => h'.elim)) fun _ _ h' => h'.elim)
    cases ok with
    | false => exact wpAny_pure ⟨rfl, h₃⟩
    | true =>
      exact wpAny_bind (wpAny_bind (wpAny_mono h₃ (fun x s₄ h₄ => wpAny_bind (wpAny_mono h₄ (fun _ s₅ h₅ => wpAny_pure (wpAny_pure ⟨rfl, h₅⟩)) fun _ _ h' => h'.elim)) fun _ _ h' => h'.elim))

theorem append_exact {l : Addr} {vs : Array Value} {n : Nat} {x : Value} {Q : Value → Shared → Prop} (ho : s.heap.get? l = some ⟨.type "list", none, .seq vs n, #[]⟩) (hsz : vs.size ≤ sizeLine)
    (hQ : ∀ h' n', h'.get? l = some ⟨.type "list", none, .seq (vs.push x) n', #[]⟩ → Heap.SameBut l s.heap h' → Q .none { s with heap := h' }) :
    wpAny (model prog w) A (call (.builtin "list.append") [.ref l, x]) Q E s := by
  have hT : s.TypeIs (.ref l) "list" := ⟨_, ho, rfl⟩
  refine wpAny_call_entry slot_list_append hT entry_list_append ?_ (args_list_append _ _)
  show wpAny _ _ (updateSeq l (·.push x) >>= fun _ => ret .none) _ _ s
  refine wpAny_bind ?_
  exact wpAny_updateSeq ho rfl (wpAny_pure ⟨.none, rfl, hQ _ (if (vs.push x).size == vs.size then n else n + 1) (Heap.get?_update_self _ ho rfl) (Heap.SameBut.update ..)⟩)
end

section
variable {cx : Cx} {c c' : CE} {env : Env} {scope : Scope} {t : Expr} {mt : MTgt} {σ : List (Option PV)} {H : Hp} {s : Shared} {A : Around} {E : Value → Shared → Prop}

/-- one turn's tests and element -/
noncomputable def TurnOk (cx : Cx) (A : Around) (c' : CE) (ifs : List Expr) (elt : Expr) (σ' : List (Option PV)) (K : Option PV → Hp → Prop) (H : Hp) : Prop :=
  ∀ (cenv : Env) (s : Shared), FxOk cx c' cenv → At cx c' cenv σ' H s →
    wpAny (model cx.prog cx.w) A (forIn ifs true fun c r => if r = true then do let ok ← isTrue c cenv (eval c cenv); pure (ForInStep.yield ok) else pure (ForInStep.yield r)) (fun ok s₃ =>
      if ok = true then wpAny (model cx.prog cx.w) A (eval elt cenv) (fun x s₄ => ∃ p H₄, Rep cx s₄.heap x p ∧ Inv cx H₄ s₄ ∧ Step noF s H s₄ H₄ ∧ K (some p) H₄) (fun _ _ => False) s₃
      else ∃ H₃, Inv cx H₃ s₃ ∧ Step noF s H s₃ H₃ ∧ K none H₃) (fun _ _ => False) s

theorem comp_block {elt iter : Expr} {ifs : List Expr} {pos : Pos} {cl : List (Str × Addr)} {I : Addr} {items : List PV} {dep : Hp → Prop} {tok : Expr → Prop} {wr : Addr → Prop} {St : Nat → Heap → Prop} {Mid : Nat → Value → Heap → Prop}
    {f : PV → (Option PV → Hp → Prop) → Hp → Prop} {Q : PV → Hp → Prop} {RR : Value → Addr → Result → Shared → Prop} {s₂ : Shared} {H₂ : Hp}
    (hh : A.handled = none) (fx : FxOk cx c env) (a : At cx c env σ H s) (co : CompOk c scope t c' mt) (hcl : ∀ y ∈ cl, env.cells.lookup y.1 = some y.2)
    (hfr : ∀ x, (x, NameKind.free) ∈ scope.names → ∃ a, cl.lookup x = some a ∧ env.cells.lookup x = some a) (hp : cl.Pairwise fun x y => x.2 ≠ y.2)
    (W : Walk cx I items dep tok wr St Mid) (hst : St 0 s₂.heap) (i₂ : Inv cx H₂ s₂) (st₂ : Step noF s H s₂ H₂) (hw1 : ∀ a, wr a → s.heap.get? a = none) (hw2 : ∀ a, wr a → H₂ a = none) (ht : tok t)
    (hsz : items.length ≤ sizeLine) (hc : compW dep f items [] Q H₂)
    (hturn : ∀ x K H', f x K H' → ∃ σ', bindT (σ ++ [none, none]) mt x = some σ' ∧ TurnOk cx A c' ifs elt σ' K H')
    (hRR : ∀ D C s' H' m acc, s.heap.get? D = none → s.heap.get? C = none → D ≠ C → s'.heap.Ns C m → H' C = none → Inv cx (upd H' D (.list acc)) s' → Step noF s H s' (upd H' D (.list acc)) → Q (.ref D) (upd H' D (.list acc)) → RR (.ref D) C (.ok .next) s') :
    wpAny (model cx.prog cx.w) A (newList []) (fun acc s₃ => wpAny (model cx.prog cx.w) A (newFunctionEnv scope env.globals cl [] env.qual none .none (some env)) (fun cenv s₄ =>
      codeAny (model cx.prog cx.w) A (.compStart (.ListComp elt [⟨t, iter, ifs, 0⟩] scope pos) 0 (.ref I) acc { cenv with scope := relabel scope env }) (RR acc cenv.locals) s₄) E s₃) E s₂ := by
  refine wpAny_newObj_type (wpAny_newFunctionEnv co.nocell (by intro y hy; simp at hy) (fun h₁ hns₁ hsb₁ => ?_) co.kind)
  dsimp only at hns₁ hsb₁ ⊢
  generalize hH2 : s₂.heap.push { cls := .type "list", dict := none, data := .seq ([] : List Value).toArray } = G at hns₁ hsb₁ ⊢
  have hC : G.objs.size = s₂.heap.objs.size + 1 := by rw [← hH2, Heap.size_push]
  have hDC : s₂.heap.objs.size ≠ G.objs.size := by rw [hC]; exact Nat.ne_of_lt (Nat.lt_succ_self _)
  have fresh : ∀ a, s₂.heap.objs.size ≤ a → s₂.heap.get? a = none := fun a ha => by
    cases e : s₂.heap.get? a with
    | none => rfl
    | some o' => exact absurd (Heap.lt_size e) (Nat.not_lt.mpr ha)
  have old : ∀ b o, s₂.heap.get? b = some o → h₁.get? b = some o := fun b o e => hsb₁.extBut b o (by rw [hC]; exact Nat.ne_of_lt (Nat.lt_succ_of_lt (Heap.lt_size e))) (Heap.get?_push_of_some _ (hH2 ▸ Heap.get?_push_of_some _ e))
  have s0none : ∀ a, s₂.heap.get? a = none → s.heap.get? a = none := fun a h1 => by
    cases e : s.heap.get? a with
    | none => rfl
    | some o => exact absurd h1 (st₂.live a (by rw [e]; simp))
  have hDs : s.heap.get? s₂.heap.objs.size = none := s0none _ (fresh _ (Nat.le_refl _))
  have hCs : s.heap.get? G.objs.size = none := s0none _ (fresh _ (by rw [hC]; exact Nat.le_succ _))
  have baseS : ∀ a o, s.heap.get? a = none → ¬ cx.base a o := fun a' o h1 h2 => by have := a.inv.base a' o h2; rw [h1] at this; cases this
  have hH₂ : ∀ a, s₂.heap.objs.size ≤ a → H₂ a = none := fun a ha => by
    cases e : H₂ a with
    | none => rfl
    | some o => exact absurd (i₂.dom_lt (a := a) (by rw [e]; simp)) (Nat.not_lt.mpr ha)
  have wlt : ∀ a, wr a → a < s₂.heap.objs.size := fun a ha => by
    cases e : s₂.heap.get? a with
    | none => exact absurd e (W.live 0 _ a hst ha)
    | some o => exact Heap.lt_size e
  have nwD : ¬ wr s₂.heap.objs.size := fun h => Nat.lt_irrefl _ (wlt _ h)
  have nwC : ¬ wr G.objs.size := fun h => by have := wlt _ h; rw [hC] at this; exact Nat.lt_irrefl _ (Nat.lt_of_succ_lt this)
  have hst₁ : St 0 h₁ := W.frame _ _ _ hst (fun b o _ e => old b o e) fun b vs n e => old b _ e
  have hacc : h₁.get? s₂.heap.objs.size = some ⟨.type "list", none, .seq #[] 0, #[]⟩ := hsb₁.extBut _ _ hDC (Heap.get?_push_of_some _ (hH2 ▸ Heap.get?_push_size _ rfl))
  -- the loop
  have loop : ∀ s₃ : Shared, s₃ = { s₂ with heap := h₁, toks := s₂.toks + ([] : List (Str × Value)).length } →
      codeAny (model cx.prog cx.w) A (.compLoop (.ListComp elt [⟨t, iter, ifs, 0⟩] scope pos) 0 (.ref I) (.ref s₂.heap.objs.size) (compEnvC scope cl G.objs.size env))
        (RR (.ref s₂.heap.objs.size) G.objs.size) s₃ := by
    rintro s₃ rfl
    refine compLoop_any (fun n s' => ∃ k acc vs nn m H', n = items.length + 1 - k ∧ k ≤ items.length ∧ acc.length ≤ k ∧ Step noF s H s' H' ∧ Inv cx H' s' ∧ St k s'.heap ∧ s'.heap.Ns G.objs.size m ∧ H' G.objs.size = none ∧ H' s₂.heap.objs.size = none ∧
      (∀ a, wr a → H' a = none) ∧ s'.heap.get? s₂.heap.objs.size = some ⟨.type "list", none, .seq vs nn, #[]⟩ ∧ RepL cx s'.heap vs.toList acc ∧ compW dep f (items.drop k) acc Q H') ?_ (items.length + 1)
      ⟨0, [], #[], 0, _, H₂, rfl, Nat.zero_le _, Nat.zero_le _, ⟨st₂.same.trans ⟨_, _, rfl⟩, fun b o hb e => old b o (st₂.keep b o hb e), st₂.grow, fun b hb => live_of old b (st₂.live b hb)⟩, i₂.grown (s' := { s₂ with heap := h₁, toks := s₂.toks + ([] : List (Str × Value)).length }) old, hst₁, hns₁,
        hH₂ _ (by rw [hC]; exact Nat.le_succ _), hH₂ _ (Nat.le_refl _), hw2, hacc, by simp [RepL], by simpa using hc⟩
    rintro n s' ⟨k, acc, vs, nn, m, H', rfl, hk, hacck, stp, inv, hS, hns, hHC, hHD, hHw, hD, hrep, hcw⟩
    have bw : ∀ a o, wr a → ¬ cx.base a o := fun a' o ha => baseS a' o (hw1 a' ha)
    rcases Nat.lt_or_ge k items.length with hlt | hge
    · -- a turn
      rw [List.drop_eq_getElem_cons hlt] at hcw
      obtain ⟨hdep, hf⟩ := hcw
      refine W.item hh hS inv hdep hHw (List.getElem?_eq_getElem hlt) fun v s₁ sm₁ kp₁ hM rv => ?_
      have nt₁ := W.noTup k _ hS
      have inv₁ := inv.side kp₁ hHw bw nt₁
      have stp₁ := stp.side sm₁ kp₁ hw1
      have tp₁ := tup_keep nt₁ kp₁
      have nsC₁ : s₁.heap.Ns G.objs.size m := by obtain ⟨o, es, ep, ho, r⟩ := hns; exact ⟨o, es, ep, kp₁ _ _ nwC ho, r⟩
      have hD₁ := kp₁ _ _ nwD hD
      have hrep₁ := repL_keep tp₁ _ hrep
      refine W.lot ht hM fun s₂' sm₂ kp₂ hS₂ => ?_
      have nt₂ := W.midTup _ _ _ hM
      have inv₂ := inv₁.side kp₂ hHw bw nt₂
      have stp₂ := stp₁.side sm₂ kp₂ hw1
      have tp₂ := tup_keep nt₂ kp₂
      have nsC₂ : s₂'.heap.Ns G.objs.size m := by obtain ⟨o, es, ep, ho, r⟩ := nsC₁; exact ⟨o, es, ep, kp₂ _ _ nwC ho, r⟩
      have hD₂ := kp₂ _ _ nwD hD₁
      have hrep₂ := repL_keep tp₂ _ hrep₁
      have rv₂ := rep_keep tp₂ _ rv
      have fxc := fx_comp fx co (C := G.objs.size) hcl hfr hp fun x ad hx e' => by
        have := a.fr.live (a := ad) (.inr ⟨x, hx⟩)
        rw [e'] at this
        exact this hCs
      have aE := a.step stp₂ inv₂
      have aC := at_comp fx co aE hcl hfr nsC₂ hHC (fun o => baseS _ o hCs)
      obtain ⟨σ', hb, hT⟩ := hturn _ _ _ hf
      refine assign_tgt (F := fun b => b = G.objs.size) fxc aC hh co.tgt rv₂ hb ?_ fun s₃ a₃ stC => ?_
      · intro x i hx hi ad _ hl
        exact hl (lookup_relabel_local ((co.tloc x i hx).1 hi))
      have ntC : NoTup s₂'.heap (fun b => b = G.objs.size) := fun b hb' vs' n' e' => by
        subst hb'
        obtain ⟨o, es, ep, ho, hd, _⟩ := nsC₂
        rw [e'] at ho; injection ho with ho; subst ho; simp at hd
      have kC : KeepBut (fun b => b = G.objs.size ∨ dom H' b) s₂'.heap s₃.heap := fun b o hb' e' => stC.keep b o (fun h => hb' (h.elim .inr .inl)) e'
      have stp₃ : Step noF s H s₃ H' := stp₂.then stC fun b hb' => by subst hb'; exact hCs
      have tp₃ := stC.tups inv₂ ntC
      have hD₃ : s₃.heap.get? s₂.heap.objs.size = some ⟨.type "list", none, .seq vs nn, #[]⟩ := stC.keep _ _ (fun h => h.elim (fun h => h hHD) fun h => hDC h) hD₂
      have hS₃ : St (k + 1) s₃.heap := W.frame _ _ _ hS₂ (fun b o hb' e' => stC.keep b o (fun h => h.elim (fun h => h (hHw b hb')) fun h => nwC (h ▸ hb')) e') tp₃
      have hrep₃ := repL_keep tp₃ _ hrep₂
      obtain ⟨m₃, cm₃, nsC₃, _⟩ := a₃.fr
      -- what one more turn leaves
      have next : ∀ (s₄ : Shared) (H₄ : Hp) (r : Option PV) (s₅ : Shared) (vs' : Array Value) (nn' : Nat), Inv cx H₄ s₄ → Step noF s₃ H' s₄ H₄ → compW dep f (items.drop (k + 1)) (match r with | some p => acc ++ [p] | none => acc) Q H₄ →
          Same s₄ s₅ → KeepBut (fun b => b = s₂.heap.objs.size) s₄.heap s₅.heap → s₅.heap.get? s₂.heap.objs.size = some ⟨.type "list", none, .seq vs' nn', #[]⟩ → RepL cx s₅.heap vs'.toList (match r with | some p => acc ++ [p] | none => acc) →
          ∃ m, m < items.length + 1 - k ∧ ∃ k acc vs nn m' H', m = items.length + 1 - k ∧ k ≤ items.length ∧ acc.length ≤ k ∧ Step noF s H s₅ H' ∧ Inv cx H' s₅ ∧ St k s₅.heap ∧ s₅.heap.Ns G.objs.size m' ∧ H' G.objs.size = none ∧ H' s₂.heap.objs.size = none ∧
            (∀ a, wr a → H' a = none) ∧ s₅.heap.get? s₂.heap.objs.size = some ⟨.type "list", none, .seq vs nn, #[]⟩ ∧ RepL cx s₅.heap vs.toList acc ∧ compW dep f (items.drop k) acc Q H' := by
        intro s₄ H₄ r s₅ vs' nn' i₄ st₄ cw₄ sm₅ kp₅ hD₅ hr₅
        have grow4 : ∀ b, s₃.heap.get? b ≠ none → H' b = none → H₄ b = none := fun b hb' hH' => by
          cases e' : H₄ b with
          | none => rfl
          | some o => exact absurd (st₄.grow b (by rw [e']; simp)) fun h => h.elim (fun h => h hH') fun h => hb' h
        have hHD₄ : H₄ s₂.heap.objs.size = none := grow4 _ (by rw [hD₃]; simp) hHD
        have hHC₄ : H₄ G.objs.size = none := grow4 _ (by obtain ⟨o, es, ep, ho, _⟩ := nsC₃; show s₃.heap.get? (compEnvC scope cl G.objs.size env).locals ≠ none; rw [ho]; simp) hHC
        have hHw₄ : ∀ b, wr b → H₄ b = none := fun b hb' => grow4 b (W.live _ _ b hS₃ hb') (hHw b hb')
        have hD₄ := st₄.keep _ _ (fun h => h.elim (fun h => h hHD) id) hD₃
        have ntD : NoTup s₄.heap (fun b => b = s₂.heap.objs.size) := noTup_single hD₄ rfl (by decide)
        have i₅ := i₄.side kp₅ (fun b hb' => by subst hb'; exact hHD₄) (fun b o hb' => by subst hb'; exact baseS _ o hDs) ntD
        have k35 : ∀ b o, s₃.heap.get? b = some o → H' b = none → b ≠ s₂.heap.objs.size → s₅.heap.get? b = some o := fun b o e' hH' hne => kp₅ b o hne (st₄.keep b o (fun h => h.elim (fun h => h hH') id) e')
        refine ⟨items.length + 1 - (k + 1), by omega, k + 1, _, vs', nn', m₃, H₄, rfl, hlt, ?_, ?_, i₅, ?_, ?_, hHC₄, hHD₄, hHw₄, hD₅, hr₅, cw₄⟩
        · cases r <;> simp <;> omega
        · exact (stp₃.trans0 st₄).side sm₅ kp₅ fun b hb' => by subst hb'; exact hDs
        · exact W.frame _ _ _ hS₃ (fun b o hb' e' => k35 b o e' (hHw b hb') fun h => nwD (h ▸ hb')) fun b vs'' n'' e' => tup_keep ntD kp₅ _ _ _ (st₄.tups a₃.inv noTup_noF _ _ _ e')
        · obtain ⟨o, es, ep, ho, r⟩ := nsC₃
          exact ⟨o, es, ep, k35 _ _ ho hHC (Ne.symm hDC), r⟩
      refine wpAny_mono (hT _ _ fxc a₃) (fun ok s₄ h₄ => ?_) fun _ _ x => x
      cases ok with
      | true =>
        simp only [if_true] at h₄ ⊢
        refine wpAny_mono h₄ (fun y s₄ h₄ => ?_) fun _ _ x => x
        obtain ⟨p, H₄, ry, i₄, st₄, K₄⟩ := h₄
        have hD₄ := st₄.keep _ _ (fun h => h.elim (fun h => h hHD) id) hD₃
        have hrep₄ := repL_keep (st₄.tups a₃.inv noTup_noF) _ hrep₃
        have hl := repL_length hrep
        simp only [Array.length_toList] at hl
        refine append_exact hD₄ (by omega) fun h' n' hD₅ hs₅ => ?_
        have kp₅ := keep_same hs₅
        have tp₅ := tup_keep (noTup_single hD₄ rfl (by decide)) kp₅
        refine next s₄ H₄ (some p) _ _ n' i₄ st₄ K₄ (same_heap _ _) kp₅ hD₅ ?_
        simp only [Array.toList_push]
        exact repL_append (repL_keep tp₅ _ hrep₄) (by simp only [RepL]; exact ⟨rep_keep tp₅ _ ry, trivial⟩)
      | false =>
        simp only [Bool.false_eq_true, if_false] at h₄ ⊢
        obtain ⟨H₄, i₄, st₄, K₄⟩ := h₄
        have hD₄ := st₄.keep _ _ (fun h => h.elim (fun h => h hHD) id) hD₃
        exact next s₄ H₄ none s₄ vs nn i₄ st₄ K₄ (.refl _) (.refl _ _) hD₄ (repL_keep (st₄.tups a₃.inv noTup_noF) _ hrep₃)
    · -- the end
      have hke : k = items.length := Nat.le_antisymm hk hge
      rw [List.drop_of_length_le hge] at hcw
      obtain ⟨hdep, hq⟩ := hcw
      refine W.done hh hS inv hdep hHw (by simp; omega) hk fun s₁ sm₁ kp₁ => ?_
      have nt₁ := W.noTup k _ hS
      have inv₁ := inv.side kp₁ hHw bw nt₁
      have stp₁ := stp.side sm₁ kp₁ hw1
      have nsC₁ : s₁.heap.Ns G.objs.size m := by obtain ⟨o, es, ep, ho, r⟩ := hns; exact ⟨o, es, ep, kp₁ _ _ nwC ho, r⟩
      have hD₁ := kp₁ _ _ nwD hD
      have hrep₁ := repL_keep (tup_keep nt₁ kp₁) _ hrep
      exact hRR _ _ s₁ H' m acc hDs hCs hDC nsC₁ hHC (inv₁.adopt (fun o => baseS _ o hDs) (by simp only [HoldsO]; exact ⟨vs, nn, hD₁, hrep₁⟩)) (stp₁.adopt hDs) (hq _ hHD)
  exact codeAny_compStart_list (loop _ rfl) (W.self hst₁ (loop _ rfl))
end

end Mine
end

/-! M8e -/
section
set_option autoImplicit false
namespace Mine
open PySem PyProof.Rows

section
variable {cx : Cx} {H : Hp} {s : Shared} {A : Around} {E : Value → Shared → Prop} {Q : List PV → (Hp → Prop) → Hp → Prop} {tq : Expr → Prop}

theorem push_keep (h : Heap) (o : Obj) : ∀ b ob, h.get? b = some ob → (h.push o).get? b = some ob := fun _ _ e => Heap.get?_push_of_some _ e

theorem it_single {St : Nat → Heap → Prop} {Mid : Nat → Value → Heap → Prop} {items : List PV} {dep : Hp → Prop} {tok : Expr → Prop} {o : Obj} (i : Inv cx H s) (W : Walk cx s.heap.objs.size items dep tok (fun b => b = s.heap.objs.size) St Mid)
    (hS : St 0 (s.heap.push o)) (ht : ∀ e, tq e → tok e) (q : Q items dep H) : ItPost cx s H tq Q (.ref s.heap.objs.size) { s with heap := s.heap.push o } :=
  ⟨_, items, dep, tok, _, St, Mid, H, rfl, W, hS, i.grown (push_keep _ _), .grown ⟨_, _, rfl⟩ (push_keep _ _), fun a ha => by subst ha; exact get?_size_none _, fun a ha => by subst ha; exact i.fresh, ht, q⟩

theorem it_ex {v : Value} {p : PV} (ok : CxOk cx) (i : Inv cx H s) (r : Rep cx s.heap v p) (q : itemsA p Q H) : wpAny (model cx.prog cx.w) A (pyIter v) (ItPost cx s H tq Q) E s := by
  cases p <;> simp only [itemsA] at q
  case str x =>
    obtain ⟨t, rfl⟩ := (by simpa only [Rep] using r : ∃ t, v = _)
    exact wpAny_pyIter_strU (it_single i (Walk.str _ x t) ⟨_, Heap.get?_push_size _ rfl, rfl, rfl⟩ (fun _ _ => trivial) q)
  case tup l =>
    obtain ⟨a, vs, n, rfl, ho, rl⟩ := rep_tup r
    exact iter_tuple (isTup_of ho) (it_single i (Walk.tup _ a vs n l) ⟨⟨_, Heap.get?_push_size _ rfl, rfl, rfl⟩, push_keep _ _ _ _ ho, repL_grown (push_keep _ _) rl⟩ (fun _ _ => trivial) q)
  case ref a =>
    simp only [Rep] at r
    subst r
    split at q
    · rename_i l hl
      obtain ⟨vs, n, ho, rl⟩ := holds_list (i.ok a _ hl)
      exact wpAny_pyIter_list ⟨_, ho, rfl, n, rfl⟩ (it_single i (Walk.list _ a l) ⟨_, Heap.get?_push_size _ rfl, rfl, rfl⟩ (fun _ _ => trivial) q)
    · exact q.elim

/-- what enumerate hands on -/
theorem it_enum {v : Value} {p : PV} (i : Inv cx H s) (r : Rep cx s.heap v p) (q : seqA p (fun l dep H₂ => Q (enumL 0 l) dep H₂) H) (ht : ∀ e, tq e → isTupleT e) :
    wpAny (model cx.prog cx.w) A (call (.type "enumerate") [v]) (fun it s' => wpAny (model cx.prog cx.w) A (pyIter it) (ItPost cx s H tq Q) E s') E s := by
  have fin : ∀ (h' : Heap) (items : List PV) (dep : Hp → Prop) (S : Nat → Heap → Prop), Inner cx s.heap.objs.size items dep S → S 0 h' → IsEnum h' (s.heap.objs.size + 1) s.heap.objs.size 0 .none → (∀ b o, s.heap.get? b = some o → h'.get? b = some o) → Q (enumL 0 items) dep H →
      wpAny (model cx.prog cx.w) A (pyIter (.ref (s.heap.objs.size + 1))) (ItPost cx s H tq Q) E { s with heap := h' } := fun h' items dep S D hS he hk q => by
    have hne : s.heap.objs.size + 1 ≠ s.heap.objs.size := by omega
    have W := Walk.enum D (s.heap.objs.size + 1) hne
    have hS' : (∃ old, IsEnum h' (s.heap.objs.size + 1) s.heap.objs.size ((0 : Nat) : Int) old) ∧ S 0 h' := ⟨⟨_, he⟩, hS⟩
    refine W.self (k := 0) hS' ?_
    have fr : ∀ a, s.heap.objs.size ≤ a → s.heap.get? a = none := fun a ha => by
      cases e : s.heap.get? a with
      | none => rfl
      | some o => exact absurd (Heap.lt_size e) (Nat.not_lt.mpr ha)
    have frH : ∀ a, s.heap.objs.size ≤ a → H a = none := fun a ha => by
      cases e : H a with
      | none => rfl
      | some o => exact absurd (i.dom_lt (a := a) (by rw [e]; simp)) (Nat.not_lt.mpr ha)
    refine ⟨_, _, dep, _, _, _, _, H, rfl, W, hS', i.grown hk, .grown ⟨_, _, rfl⟩ hk, fun a ha => fr a ?_, fun a ha => frH a ?_, ht, q⟩
    · rcases ha with rfl | rfl
      · exact Nat.le_succ _
      · exact Nat.le_refl _
    · rcases ha with rfl | rfl
      · exact Nat.le_succ _
      · exact Nat.le_refl _
  cases p <;> simp only [seqA] at q
  case str x =>
    obtain ⟨t, rfl⟩ := (by simpa only [Rep] using r : ∃ t, v = _)
    exact call_enumerate_str fun h' he hs _ hk => fin h' _ _ _ (Inner.str _ x t) hs he hk q
  case ref a =>
    simp only [Rep] at r
    subst r
    split at q
    case h_2 => exact q.elim
    rename_i l hl
    obtain ⟨vs, n, ho, rl⟩ := holds_list (i.ok a _ hl)
    exact call_enumerate_list ⟨_, ho, rfl, n, rfl⟩ fun h' he hs _ hk => fin h' _ _ _ (Inner.list _ a l) hs he hk q

theorem rangeSize_one (a b : Int) : Builtin.Range.rangeSize a b 1 = ((b - a).toNat : Int) := by
  unfold Builtin.Range.rangeSize
  simp only [show (1 : Int) > 0 by decide, if_true, Int.ediv_one]
  split <;> omega
theorem range_small {a b : Int} (ha : -(2 ^ 62) < a ∧ a < 2 ^ 62) (hb : -(2 ^ 62) < b ∧ b < 2 ^ 62) : Builtin.Range.small a b 1 = true := by
  unfold Builtin.Range.small
  rw [rangeSize_one]
  simp only [Builtin.Range.rangeFitsLong, show (1 : Int) > 0 by decide, if_true, Bool.and_eq_true, Bool.or_eq_true, decide_eq_true_eq]
  refine ⟨⟨⟨⟨⟨by omega, by omega⟩, by omega, by omega⟩, by omega, by omega⟩, by omega, by omega⟩, .inr ⟨by omega, by omega⟩⟩
theorem it_range {a b : Int} {t u w : Tok} {r : Addr} (i : Inv cx H s) (hr : IsRange s.heap r a b 1 t u w) (hs : Builtin.Range.small a b 1 = true) (q : Q (rangeL a b) (fun _ => True) H) :
    wpAny (model cx.prog cx.w) A (pyIter (.ref r)) (ItPost cx s H tq Q) E s := by
  refine wpAny_pyIter_range hr hs (it_single i (Walk.range _ a b) ?_ (fun _ _ => trivial) q)
  show Heap.get? _ _ = _
  rw [Heap.get?_push_size _ rfl, rangeSize_one]
  simp

theorem itPost_step {s₁ : Shared} {H₁ : Hp} (st : Step noF s H s₁ H₁) (v : Value) (s' : Shared) (x : ItPost cx s₁ H₁ tq Q v s') : ItPost cx s H tq Q v s' := by
  obtain ⟨I, items, dep, tok, wr, St, Mid, H', e, W, h1, i', st', hw, hw', ht, q⟩ := x
  refine ⟨I, items, dep, tok, wr, St, Mid, H', e, W, h1, i', st.trans0 st', fun a ha => ?_, hw', ht, q⟩
  cases e' : s.heap.get? a with
  | none => rfl
  | some o => exact absurd (hw a ha) (st.live a (by rw [e']; simp))
end

end Mine
end

/-! M9a -/
section
set_option autoImplicit false
namespace Mine
open PySem PyProof.Rows

noncomputable def TPost (cx : Cx) (s : Shared) (H : Hp) (K : Bool → Hp → Prop) : Bool → Shared → Prop := fun b s' => ∃ H', Inv cx H' s' ∧ Step noF s H s' H' ∧ K b H'
noncomputable def LPost (cx : Cx) (s : Shared) (H : Hp) (Q : List PV → Hp → Prop) : List Value → Shared → Prop := fun vs s' => ∃ ps H', RepL cx s'.heap vs ps ∧ Inv cx H' s' ∧ Step noF s H s' H' ∧ Q ps H'
noncomputable def boolQ (K : Bool → Hp → Prop) : PV → Hp → Prop := fun v H => asB v fun b => K b H

section
variable (cx : Cx) (n : Nat) (c : CE) (env : Env)
noncomputable def SndE (e : Expr) (m : MExpr) : Prop := ∀ (A : Around) (σ : List (Option PV)) (H : Hp) (s : Shared) (Q : PV → Hp → Prop) (E : Addr → Hp → Prop), Room n A → A.handled = none → At cx c env σ H s → wE cx n σ m Q E H →
  wpAny (model cx.prog cx.w) A (eval e env) (Post cx s H Q) (EPost cx s H E) s
noncomputable def SndT (e : Expr) (whole : Sem Value) (m : MExpr) : Prop := ∀ (A : Around) (σ : List (Option PV)) (H : Hp) (s : Shared) (K : Bool → Hp → Prop) (E : Addr → Hp → Prop), Room n A → A.handled = none → At cx c env σ H s → wE cx n σ m (boolQ K) E H →
  wpAny (model cx.prog cx.w) A (isTrue e env whole) (TPost cx s H K) (EPost cx s H E) s
noncomputable def SndEs (es : List Expr) (m : MExprs) : Prop := ∀ (pos : Pos) (A : Around) (σ : List (Option PV)) (H : Hp) (s : Shared) (Q : List PV → Hp → Prop) (E : Addr → Hp → Prop), Room n A → A.handled = none → At cx c env σ H s → wEs cx n σ m Q E H →
  wpAny (model cx.prog cx.w) A (spliced (backTo pos (starEach es env))) (LPost cx s H Q) (EPost cx s H E) s
noncomputable def SndI (e : Expr) (m : MIter) : Prop := ∀ (t : Expr) (A : Around) (σ : List (Option PV)) (H : Hp) (s : Shared) (Q : List PV → (Hp → Prop) → Hp → Prop) (E : Addr → Hp → Prop), Room n A → A.handled = none → At cx c env σ H s →
  (∀ a, m = .enum a → isTupleT t) → wIt cx n σ m Q E H →
  wpAny (model cx.prog cx.w) A (eval e env) (fun x s₁ => wpAny (model cx.prog cx.w) A (pyIter x) (ItPost cx s H (fun e => e = t) Q) (EPost cx s H E) s₁) (EPost cx s H E) s
end

section
variable {cx : Cx} {n : Nat} {c : CE} {env : Env} {A : Around} {σ : List (Option PV)} {H : Hp} {s : Shared} {E : Addr → Hp → Prop}
theorem SndE.go {e : Expr} {m : MExpr} (h : SndE cx n c env e m) (hr : Room n A) (hh : A.handled = none) (a : At cx c env σ H s) {Q₁ : PV → Hp → Prop} (hw : wE cx n σ m Q₁ E H) {K : Value → Shared → Prop}
    (k : ∀ v p s₁ H₁, Rep cx s₁.heap v p → Inv cx H₁ s₁ → Step noF s H s₁ H₁ → At cx c env σ H₁ s₁ → Q₁ p H₁ → K v s₁) {E' : Value → Shared → Prop} (he : ∀ x s', EPost cx s H E x s' → E' x s') :
    wpAny (model cx.prog cx.w) A (eval e env) K E' s :=
  wpAny_mono (h A σ H s Q₁ E hr hh a hw) (fun v s₁ x => by obtain ⟨p, H₁, r, i, st, q⟩ := x; exact k v p s₁ H₁ r i st (a.step st i) q) he
theorem SndT.go {e : Expr} {whole : Sem Value} {m : MExpr} (h : SndT cx n c env e whole m) (hr : Room n A) (hh : A.handled = none) (a : At cx c env σ H s) {K₁ : Bool → Hp → Prop} (hw : wE cx n σ m (boolQ K₁) E H) {K : Bool → Shared → Prop}
    (k : ∀ b s₁ H₁, Inv cx H₁ s₁ → Step noF s H s₁ H₁ → At cx c env σ H₁ s₁ → K₁ b H₁ → K b s₁) {E' : Value → Shared → Prop} (he : ∀ x s', EPost cx s H E x s' → E' x s') :
    wpAny (model cx.prog cx.w) A (isTrue e env whole) K E' s :=
  wpAny_mono (h A σ H s K₁ E hr hh a hw) (fun v s₁ x => by obtain ⟨H₁, i, st, q⟩ := x; exact k v s₁ H₁ i st (a.step st i) q) he
theorem SndEs.go {es : List Expr} {m : MExprs} (h : SndEs cx n c env es m) (pos : Pos) (hr : Room n A) (hh : A.handled = none) (a : At cx c env σ H s) {Q₁ : List PV → Hp → Prop} (hw : wEs cx n σ m Q₁ E H) {K : List Value → Shared → Prop}
    (k : ∀ vs ps s₁ H₁, RepL cx s₁.heap vs ps → Inv cx H₁ s₁ → Step noF s H s₁ H₁ → At cx c env σ H₁ s₁ → Q₁ ps H₁ → K vs s₁) {E' : Value → Shared → Prop} (he : ∀ x s', EPost cx s H E x s' → E' x s') :
    wpAny (model cx.prog cx.w) A (spliced (backTo pos (starEach es env))) K E' s :=
  wpAny_mono (h pos A σ H s Q₁ E hr hh a hw) (fun v s₁ x => by obtain ⟨p, H₁, r, i, st, q⟩ := x; exact k v p s₁ H₁ r i st (a.step st i) q) he
theorem wpAny_post_step {s₁ : Shared} {H₁ : Hp} {Q : PV → Hp → Prop} {t : Sem Value} (st : Step noF s H s₁ H₁) (h : wpAny (model cx.prog cx.w) A t (Post cx s₁ H₁ Q) (EPost cx s₁ H₁ E) s₁) :
    wpAny (model cx.prog cx.w) A t (Post cx s H Q) (EPost cx s H E) s₁ := wpAny_mono h (post_step st) (epost_step st)
theorem tpost_step {s₁ : Shared} {H₁ : Hp} {K : Bool → Hp → Prop} (st : Step noF s H s₁ H₁) (v : Bool) (s' : Shared) (x : TPost cx s₁ H₁ K v s') : TPost cx s H K v s' := by
  obtain ⟨H', i, st', q⟩ := x; exact ⟨H', i, st.trans0 st', q⟩
theorem lpost_step {s₁ : Shared} {H₁ : Hp} {Q : List PV → Hp → Prop} (st : Step noF s H s₁ H₁) (v : List Value) (s' : Shared) (x : LPost cx s₁ H₁ Q v s') : LPost cx s H Q v s' := by
  obtain ⟨p, H', r, i, st', q⟩ := x; exact ⟨p, H', r, i, st.trans0 st', q⟩
theorem tpost_bool {b : Bool} {K : Bool → Hp → Prop} {v : Value} {p : PV} {Q : Bool → Shared → Prop} {E' : Value → Shared → Prop} {M : Model} (r : Rep cx s.heap v p) (h : boolQ K p H) (q : ∀ b, p = .bool b → K b H → Q b s) : wpAny M A (truthy v) Q E' s := by
  cases p <;> simp only [boolQ, asB] at h
  simp only [Rep] at r
  subst r
  exact wpAny_truthy_bool (q _ rfl h)
end

/-! ## small facts about the syntax -/
theorem starEach_cons {e : Expr} {rest : List Expr} {env : Env} (h : notStar e = true) : starEach (e :: rest) env = (false, eval e env) :: starEach rest env := by
  cases e <;> first | rfl | (simp [notStar] at h)
theorem attributeBase_plain {o : Expr} {x : Str} {env : Env} {whole : Sem Value} (h : notSuper o = true) : attributeBase o x env whole = whole := by
  unfold attributeBase
  split
  · simp [notSuper] at h
  · rfl
theorem folded_plain {e : Expr} {env : Env} {x : Value} (h : notSet e = true) : foldedSetIterable e env x = pure x := by
  unfold foldedSetIterable
  split
  · simp [notSet] at h
  · rfl

section
variable {cx : Cx} {A : Around} {E : Value → Shared → Prop} {s : Shared} {env : Env} {Q : Value → Shared → Prop}

theorem callWith_any {pos : Pos} {f : Value} {first : List Value} {args : List (Bool × Sem Value)} (hk : KeepOk cx f)
    (h : wpAny (model cx.prog cx.w) A (evalArgs f true args []) (fun x s₁ => cx.In s₁.heap ∧ wpAny (model cx.prog cx.w) A (call f (first ++ x.pos) x.kw) Q E s₁) E s) :
    wpAny (model cx.prog cx.w) A (callWith pos f first args []) Q E s := by
  unfold callWith
  refine wpAny_bind (wpAny_holding (wpAny_mono h (fun x s₁ h₁ => wpAny_bind (wpAny_standAt ?_)) fun _ _ x => x))
  have tail : ∀ {t : Sem Value}, wpAny (model cx.prog cx.w) A t Q E s₁ → wpAny (model cx.prog cx.w) A (t >>= fun r => holding [r] point >>= fun _ => pure r) Q E s₁ :=
    fun ht => wpAny_bind (wpAny_mono ht (fun r s₂ hr => wpAny_bind (wpAny_holding (wpAny_point (wpAny_pure hr)))) fun _ _ x => x)
  refine wpAny_bind (m := keeperOf f) (hk _ _ _ _ h₁.1 fun k => ?_)
  have kp : ∀ mk, wpAny (model cx.prog cx.w) A (callMarked mk f (first ++ x.pos) x.kw) Q E s₁ := fun mk => by unfold callMarked; exact Calls.wpAny_keep h₁.2
  have op : ∀ vs, wpAny (model cx.prog cx.w) A (operate vs (call f (first ++ x.pos) x.kw)) Q E s₁ := fun vs => wpAny_operating h₁.2
  cases k <;> cases hs : args.any (·.1) <;> simp only [List.any_nil, Bool.or_false] <;>
    first
      | exact tail (kp _)
      | exact tail h₁.2
      | exact tail (op _)
      | (split <;> first | exact tail h₁.2 | exact tail (kp _))

theorem call_meth {o : Expr} {x : Str} {apos pos : Pos} {as : List Expr} (hns : notSuper o = true) (hline : (apos.endLine == pos.line) = true) (hlen : as.length < 20) (hst : ∀ e ∈ as, notStar e = true)
    (h : wpAny (model cx.prog cx.w) A (eval o env) (fun ov s₁ => ∀ pl : Sem Bool, wpAny (model cx.prog cx.w) A (getMethod ov x pl) (fun r s₂ => wpAny (model cx.prog cx.w) A (callWith pos r.1 r.2 (backTo pos (starEach as env)) []) Q E s₂) E s₁) E s) :
    wpAny (model cx.prog cx.w) A (eval (.Call (.Attribute o x apos) as [] pos) env) Q E s := by
  rw [arm_eval_Call, attributeBase_plain hns]
  refine wpAny_bind (wpAny_mono h (fun ov s₁ h₁ => ?_) fun _ _ e => e)
  refine wpAny_bind (wpAny_standAt ?_)
  have hall : ∀ l : List Expr, (∀ e ∈ l, notStar e = true) → (backTo pos (starEach l env)).all (fun x => !x.1) = true := by
    intro l
    induction l with
    | nil => intro _; rfl
    | cons e es ih => intro h; rw [starEach_cons (h e List.mem_cons_self)]; simpa [backTo] using ih fun e he => h e (List.mem_cons_of_mem _ he)
  have hform : methodCallForm (as.length + ([] : List Keyword).length) (backTo pos (starEach as env)) (backToKw pos (keywordEach [] env)) = true := by
    unfold methodCallForm
    rw [hall as hst]
    simp only [Bool.true_and, Bool.and_eq_true, decide_eq_true_eq]
    refine ⟨by rfl, ?_⟩
    show as.length + 0 + 0 < 30
    omega
  have hpos : methodCallPos true o env apos pos = pure pos := by unfold methodCallPos; simp [hline]
  unfold methodCall
  rw [hform]
  refine wpAny_bind (wpAny_holding (wpAny_mono (h₁ _) (fun r s₂ h₂ => ?_) fun _ _ e => e))
  exact wpAny_bind (wpAny_of_eq hpos h₂)
end

section
variable {cx : Cx} {n : Nat} {c : CE} {env : Env} {A : Around} {σ : List (Option PV)} {H : Hp} {s : Shared} {E : Addr → Hp → Prop}
/-- the arguments -/
theorem args_of {f : Value} {es : List Expr} {ms : MExprs} {pos : Pos} (h : SndEs cx n c env es ms) (hn : es = [] → ms = .nil) (hst : ∀ e ∈ es, notStar e = true) (hr : Room n A) (hh : A.handled = none) (a : At cx c env σ H s) {Q₁ : List PV → Hp → Prop} (hw : wEs cx n σ ms Q₁ E H)
    {K : Args → Shared → Prop} (k : ∀ vs ps s₁ H₁, RepL cx s₁.heap vs ps → Inv cx H₁ s₁ → Step noF s H s₁ H₁ → At cx c env σ H₁ s₁ → Q₁ ps H₁ → K ⟨vs, []⟩ s₁) {E' : Value → Shared → Prop} (he : ∀ x s', EPost cx s H E x s' → E' x s') :
    wpAny (model cx.prog cx.w) A (evalArgs f true (backTo pos (starEach es env)) []) K E' s := by
  have h1 : wpAny (model cx.prog cx.w) A (spliced (backTo pos (starEach es env))) (fun vs s' => K ⟨vs, []⟩ s') E' s := h.go pos hr hh a hw k he
  cases es with
  | nil =>
    rw [hn rfl] at hw
    simp only [wEs_nil, wEs_cons] at hw
    exact PySem.evalArgs_none (k [] [] s H (by simp [RepL]) a.inv (.refl _ _) a hw)
  | cons e es =>
    rw [starEach_cons (hst e List.mem_cons_self)] at h1 ⊢
    exact Calls.evalArgs_plain h1
end

end Mine
end

/-! M9b -/
section
set_option autoImplicit false
set_option linter.all false
namespace Mine
open PySem PyProof.Rows

section
variable {cx : Cx} {n : Nat} {c : CE} {env : Env}

theorem room_any {e : Expr} {m : MExpr} (h : SndE cx n c env e m) (he : isTrue e env (eval e env) = (do let v ← eval e env; standAt e.pos; holding [v] (truthy v))) : SndT cx n c env e (eval e env) m := by
  intro A σ H s K E hr hh a hw
  refine isTrue_plain (h.go hr hh a hw (fun v p s₁ H₁ r i st a₁ q => ?_) fun _ _ x => x) he
  exact tpost_bool (b := true) r q fun b _ k => ⟨H₁, i, st, k⟩

theorem snd_none {k : Nat} {pos : Pos} : SndE cx n c env (.Constant .none k pos) .none := fun A σ H s Q E hr hh a hw => wpAny_Constant_none (post_none a.inv hw)
theorem snd_bool {b : Bool} {k : Nat} {pos : Pos} : SndE cx n c env (.Constant (.bool b) k pos) (.bool b) := fun A σ H s Q E hr hh a hw => wpAny_Constant_bool (post_bool a.inv hw)
theorem snd_int {i : Int} {k : Nat} {pos : Pos} : SndE cx n c env (.Constant (.int i) k pos) (.int i) := fun A σ H s Q E hr hh a hw => wpAny_Constant_int (post_int a.inv hw)
theorem snd_str {x : Str} {k : Nat} {pos : Pos} : SndE cx n c env (.Constant (.str x) k pos) (.str x) := fun A σ H s Q E hr hh a hw => wpAny_Constant_str (post_str a.inv hw)

theorem snd_name (ok : CxOk cx) (fx : FxOk cx c env) {x : Str} {pos : Pos} {m : MExpr} (h : cName cx.globs cx.consts c x = some m) : SndE cx n c env (.Name x pos) m := by
  intro A σ H s Q E hr hh a hw
  unfold cName at h
  split at h
  · cases h
  rename_i hd
  have hd : (x == ("__debug__" : Str)) = false := by simpa using hd
  split at h
  · rename_i i hi
    injection h with h
    subst h
    simp only [wE_none, wE_boolc, wE_int, wE_str, wE_var, wE_glob, wE_gconst, wE_and, wE_or, wE_not, wE_neg, wE_bin, wE_cmp, wE_cmp2, wE_call, wE_meth, wE_sub, wE_sliceTo, wE_sliceFrom, wE_list, wE_tup, wE_dict0, wE_dict1, wE_listOf, wE_comp, wE_compIf] at hw
    split at hw
    · rename_i p hp
      exact wpAny_Name (load_var fx a hi hp fun v r => post_here a.inv r hw) hd
    · exact hw.elim
  · split at h
    · rename_i hb
      simp only [Bool.and_eq_true, beq_iff_eq, List.contains_iff_mem] at hb
      have hk : env.kindOf x = some .globalImplicit := by unfold Env.kindOf; rw [fx.names]; exact hb.1
      split at h
      · rename_i p hp
        injection h with h
        subst h
        simp only [wE_none, wE_boolc, wE_int, wE_str, wE_var, wE_glob, wE_gconst, wE_and, wE_or, wE_not, wE_neg, wE_bin, wE_cmp, wE_cmp2, wE_call, wE_meth, wE_sub, wE_sliceTo, wE_sliceFrom, wE_list, wE_tup, wE_dict0, wE_dict1, wE_listOf, wE_comp, wE_compIf] at hw
        obtain ⟨_, v, hv, rv⟩ := ok.consts x p (mem_of_lookup hp)
        exact Ns.globals ok a.inv fx hb.2 hv hk hd (post_here a.inv (rv _) hw)
      · injection h with h
        subst h
        simp only [wE_none, wE_boolc, wE_int, wE_str, wE_var, wE_glob, wE_gconst, wE_and, wE_or, wE_not, wE_neg, wE_bin, wE_cmp, wE_cmp2, wE_call, wE_meth, wE_sub, wE_sliceTo, wE_sliceFrom, wE_list, wE_tup, wE_dict0, wE_dict1, wE_listOf, wE_comp, wE_compIf] at hw
        obtain ⟨v, hv⟩ := ok.bound x hb.2
        exact Ns.globals ok a.inv fx hb.2 hv hk hd (post_here a.inv (by simpa only [Rep] using hv) hw)
    · cases h

theorem wE_bool {σ : List (Option PV)} {H : Hp} {m : MExpr} {E : Addr → Hp → Prop} {Q : PV → Hp → Prop} {K : Bool → Hp → Prop} (h : wE cx n σ m Q E H) (e : Q = boolQ K) : wE cx n σ m (boolQ K) E H := e ▸ h
theorem snd_not {e : Expr} {pos : Pos} {m : MExpr} (h : SndE cx n c env e m) : SndE cx n c env (.UnaryOp .Not e pos) (.not m) := by
  intro A σ H s Q E hr hh a hw
  simp only [wE_none, wE_boolc, wE_int, wE_str, wE_var, wE_glob, wE_gconst, wE_and, wE_or, wE_not, wE_neg, wE_bin, wE_cmp, wE_cmp2, wE_call, wE_meth, wE_sub, wE_sliceTo, wE_sliceFrom, wE_list, wE_tup, wE_dict0, wE_dict1, wE_listOf, wE_comp, wE_compIf] at hw
  refine UnaryOp_ (h.go hr hh a hw (fun v p s₁ H₁ r i st a₁ q => not_of ?_) fun _ _ x => x)
  cases p <;> simp only [asB] at q
  rename_i b
  simp only [Rep] at r
  subst r
  exact wpAny_truthy_bool (post_step st _ _ (post_bool i q))
theorem sndT_not {e : Expr} {pos : Pos} {m : MExpr} {whole : Sem Value} (h : SndT cx n c env e (eval e env) m) : SndT cx n c env (.UnaryOp .Not e pos) whole (.not m) := by
  intro A σ H s K E hr hh a hw
  simp only [wE_none, wE_boolc, wE_int, wE_str, wE_var, wE_glob, wE_gconst, wE_and, wE_or, wE_not, wE_neg, wE_bin, wE_cmp, wE_cmp2, wE_call, wE_meth, wE_sub, wE_sliceTo, wE_sliceFrom, wE_list, wE_tup, wE_dict0, wE_dict1, wE_listOf, wE_comp, wE_compIf] at hw
  have : wE cx n σ m (boolQ fun b H => K (!b) H) E H := by
    exact hw
  exact isTrue_not (h.go hr hh a this (fun b s₁ H₁ i st a₁ q => ⟨H₁, i, st, q⟩) fun _ _ x => x)

theorem snd_neg {e : Expr} {pos : Pos} {m : MExpr} (h : SndE cx n c env e m) : SndE cx n c env (.UnaryOp .USub e pos) (.neg m) := by
  intro A σ H s Q E hr hh a hw
  simp only [wE_none, wE_boolc, wE_int, wE_str, wE_var, wE_glob, wE_gconst, wE_and, wE_or, wE_not, wE_neg, wE_bin, wE_cmp, wE_cmp2, wE_call, wE_meth, wE_sub, wE_sliceTo, wE_sliceFrom, wE_list, wE_tup, wE_dict0, wE_dict1, wE_listOf, wE_comp, wE_compIf] at hw
  refine UnaryOp_ (h.go hr hh a hw (fun v p s₁ H₁ r i st a₁ q => ?_) fun _ _ x => x)
  cases p <;> simp only [asI] at q
  rename_i b
  obtain ⟨t, rfl⟩ := (by simpa only [Rep] using r : ∃ t, v = _)
  exact neg_int (post_step st _ _ (post_int i q))

theorem snd_bin {l r : Expr} {op : Operator} {pos : Pos} {a b : MExpr} (hl : SndE cx n c env l a) (hr' : SndE cx n c env r b) : SndE cx n c env (.BinOp l op r pos) (.bin op a b) := by
  intro A σ H s Q E hr hh at0 hw
  simp only [wE_none, wE_boolc, wE_int, wE_str, wE_var, wE_glob, wE_gconst, wE_and, wE_or, wE_not, wE_neg, wE_bin, wE_cmp, wE_cmp2, wE_call, wE_meth, wE_sub, wE_sliceTo, wE_sliceFrom, wE_list, wE_tup, wE_dict0, wE_dict1, wE_listOf, wE_comp, wE_compIf] at hw
  refine wpAny_BinOp (hl.go hr hh at0 hw (fun v p s₁ H₁ r1 i1 st1 a1 q1 => hr'.go hr hh a1 q1 (fun u p' s₂ H₂ r2 i2 st2 a2 q2 => ?_) fun _ _ x => epost_step st1 _ _ x) fun _ _ x => x)
  exact wpAny_post_step (st1.trans0 st2) (binA_sound q2 A s₂ [v, u] hr hh (by simp only [RepL]; exact ⟨st2.rep i1 r1, r2, trivial⟩) i2)

theorem snd_cmp {l r : Expr} {op : CmpOp} {pos : Pos} {a b : MExpr} (hm : behindInMarks op r = false) (hl : SndE cx n c env l a) (hr' : SndE cx n c env r b) : SndE cx n c env (.Compare l [op] [r] pos) (.cmp op a b) := by
  intro A σ H s Q E hr hh at0 hw
  simp only [wE_none, wE_boolc, wE_int, wE_str, wE_var, wE_glob, wE_gconst, wE_and, wE_or, wE_not, wE_neg, wE_bin, wE_cmp, wE_cmp2, wE_call, wE_meth, wE_sub, wE_sliceTo, wE_sliceFrom, wE_list, wE_tup, wE_dict0, wE_dict1, wE_listOf, wE_comp, wE_compIf] at hw
  refine wpAny_Compare1 (hl.go hr hh at0 hw (fun v p s₁ H₁ r1 i1 st1 a1 q1 => hr'.go hr hh a1 q1 (fun u p' s₂ H₂ r2 i2 st2 a2 q2 => ?_) fun _ _ x => epost_step st1 _ _ x) fun _ _ x => x) hm
  exact wpAny_post_step (st1.trans0 st2) (cmpA_sound q2 A s₂ [v, u] hr hh (by simp only [RepL]; exact ⟨st2.rep i1 r1, r2, trivial⟩) i2)
theorem sndT_cmp {l r : Expr} {op : CmpOp} {pos : Pos} {a b : MExpr} {whole : Sem Value} (hm : behindInMarks op r = false) (hl : SndE cx n c env l a) (hr' : SndE cx n c env r b) : SndT cx n c env (.Compare l [op] [r] pos) whole (.cmp op a b) := by
  intro A σ H s K E hr hh at0 hw
  simp only [wE_none, wE_boolc, wE_int, wE_str, wE_var, wE_glob, wE_gconst, wE_and, wE_or, wE_not, wE_neg, wE_bin, wE_cmp, wE_cmp2, wE_call, wE_meth, wE_sub, wE_sliceTo, wE_sliceFrom, wE_list, wE_tup, wE_dict0, wE_dict1, wE_listOf, wE_comp, wE_compIf] at hw
  refine wpAny_isTrue_Compare1 (hl.go hr hh at0 hw (fun v p s₁ H₁ r1 i1 st1 a1 q1 => hr'.go hr hh a1 q1 (fun u p' s₂ H₂ r2 i2 st2 a2 q2 => ?_) fun _ _ x => epost_step st1 _ _ x) fun _ _ x => x) hm
  refine wpAny_mono (cmpA_sound q2 A s₂ [v, u] hr hh (by simp only [RepL]; exact ⟨st2.rep i1 r1, r2, trivial⟩) i2) (fun w s₃ h₃ => ?_) fun _ _ x => epost_step (st1.trans0 st2) _ _ x
  obtain ⟨p, H₃, r3, i3, st3, q3⟩ := h₃
  exact tpost_bool (b := true) r3 q3 fun b _ k => ⟨H₃, i3, (st1.trans0 st2).trans0 st3, k⟩

theorem snd_cmp2 {l m r : Expr} {op op' : CmpOp} {pos : Pos} {a b d : MExpr} (hm : lastMarks [op, op'] [m, r] = false) (hl : SndE cx n c env l a) (hm' : SndE cx n c env m b) (hr' : SndE cx n c env r d) :
    SndE cx n c env (.Compare l [op, op'] [m, r] pos) (.cmp2 op op' a b d) := by
  intro A σ H s Q E hr hh at0 hw
  simp only [wE_none, wE_boolc, wE_int, wE_str, wE_var, wE_glob, wE_gconst, wE_and, wE_or, wE_not, wE_neg, wE_bin, wE_cmp, wE_cmp2, wE_call, wE_meth, wE_sub, wE_sliceTo, wE_sliceFrom, wE_list, wE_tup, wE_dict0, wE_dict1, wE_listOf, wE_comp, wE_compIf] at hw
  refine Compare_chain (hl.go hr hh at0 hw (fun v p s₁ H₁ r1 i1 st1 a1 q1 => chain_link (hm'.go hr hh a1 q1 (fun u p' s₂ H₂ r2 i2 st2 a2 q2 => ?_) fun _ _ x => epost_step st1 _ _ x)) fun _ _ x => x) hm
  refine wpAny_mono (cmpA_sound q2 A s₂ [v, u] hr hh (by simp only [RepL]; exact ⟨st2.rep i1 r1, r2, trivial⟩) i2) (fun w s₃ h₃ => ?_) fun _ _ x => epost_step (st1.trans0 st2) _ _ x
  obtain ⟨p3, H₃, r3, i3, st3, q3⟩ := h₃
  have st13 := (st1.trans0 st2).trans0 st3
  cases p3 <;> simp only [asB] at q3
  rename_i bb
  simp only [Rep] at r3
  subst r3
  refine wpAny_truthy_bool ?_
  split at q3
  · rename_i hb; subst hb
    rw [if_pos rfl]
    refine chain_last (hr'.go hr hh (at0.step st13 i3) q3 (fun u' p4 s₄ H₄ r4 i4 st4 a4 q4 => ?_) fun _ _ x => epost_step st13 _ _ x)
    exact wpAny_post_step (st13.trans0 st4) (cmpA_sound q4 A s₄ [u, u'] hr hh (by simp only [RepL]; exact ⟨(st3.trans0 st4).rep i2 r2, r4, trivial⟩) i4)
  · rename_i hb
    have hb : bb = false := by simpa using hb
    subst hb
    rw [if_neg (by simp)]
    exact ⟨_, H₃, by simp [Rep], i3, st13, q3⟩
theorem sndT_cmp2 {l m r : Expr} {op op' : CmpOp} {pos : Pos} {a b d : MExpr} {whole : Sem Value} (hm : lastMarks [op, op'] [m, r] = false) (hl : SndE cx n c env l a) (hm' : SndE cx n c env m b) (hr' : SndE cx n c env r d) :
    SndT cx n c env (.Compare l [op, op'] [m, r] pos) whole (.cmp2 op op' a b d) := by
  intro A σ H s Q E hr hh at0 hw
  simp only [wE_none, wE_boolc, wE_int, wE_str, wE_var, wE_glob, wE_gconst, wE_and, wE_or, wE_not, wE_neg, wE_bin, wE_cmp, wE_cmp2, wE_call, wE_meth, wE_sub, wE_sliceTo, wE_sliceFrom, wE_list, wE_tup, wE_dict0, wE_dict1, wE_listOf, wE_comp, wE_compIf] at hw
  refine isTrue_chain (hl.go hr hh at0 hw (fun v p s₁ H₁ r1 i1 st1 a1 q1 => test_link (hm'.go hr hh a1 q1 (fun u p' s₂ H₂ r2 i2 st2 a2 q2 => ?_) fun _ _ x => epost_step st1 _ _ x)) fun _ _ x => x) hm
  refine wpAny_mono (cmpA_sound q2 A s₂ [v, u] hr hh (by simp only [RepL]; exact ⟨st2.rep i1 r1, r2, trivial⟩) i2) (fun w s₃ h₃ => ?_) fun _ _ x => epost_step (st1.trans0 st2) _ _ x
  obtain ⟨p3, H₃, r3, i3, st3, q3⟩ := h₃
  have st13 := (st1.trans0 st2).trans0 st3
  cases p3 <;> simp only [asB] at q3
  rename_i bb
  simp only [Rep] at r3
  subst r3
  refine wpAny_truthy_bool ?_
  split at q3
  · rename_i hb; subst hb
    rw [if_pos rfl]
    refine test_last (hr'.go hr hh (at0.step st13 i3) q3 (fun u' p4 s₄ H₄ r4 i4 st4 a4 q4 => ?_) fun _ _ x => epost_step st13 _ _ x)
    refine wpAny_mono (cmpA_sound q4 A s₄ [u, u'] hr hh (by simp only [RepL]; exact ⟨(st3.trans0 st4).rep i2 r2, r4, trivial⟩) i4) (fun w s₅ h₅ => ?_) fun _ _ x => epost_step (st13.trans0 st4) _ _ x
    obtain ⟨p5, H₅, r5, i5, st5, q5⟩ := h₅
    exact tpost_bool (b := true) r5 q5 fun b _ k => ⟨H₅, i5, (st13.trans0 st4).trans0 st5, k⟩
  · rename_i hb
    have hb : bb = false := by simpa using hb
    subst hb
    rw [if_neg (by simp)]
    exact ⟨H₃, i3, st13, q3⟩


/-! boolean chains -/
theorem snd_bool_one {op : BoolOp} {e : Expr} {pos : Pos} {m : MExpr} (h : SndE cx n c env e m) : SndE cx n c env (.BoolOp op [e] pos) m :=
  fun A σ H s Q E hr hh a hw => BoolOp_one (h A σ H s Q E hr hh a hw)
theorem sndT_bool_one {op : BoolOp} {e : Expr} {pos : Pos} {m : MExpr} {whole : Sem Value} (h : SndT cx n c env e (eval e env) m) : SndT cx n c env (.BoolOp op [e] pos) whole m := by
  intro A σ H s K E hr hh a hw
  cases op with
  | And => exact isTrue_and (h.go hr hh a hw (fun b s₁ H₁ i st a₁ q => by cases b with | true => exact isTrue_and_nil ⟨H₁, i, st, q⟩ | false => exact ⟨H₁, i, st, q⟩) fun _ _ x => x)
  | Or => exact isTrue_or (h.go hr hh a hw (fun b s₁ H₁ i st a₁ q => by cases b with | false => exact isTrue_or_nil ⟨H₁, i, st, q⟩ | true => exact ⟨H₁, i, st, q⟩) fun _ _ x => x)
theorem snd_and {e e₂ : Expr} {rest : List Expr} {pos : Pos} {a b : MExpr} (h : SndE cx n c env e a) (h' : SndE cx n c env (.BoolOp .And (e₂ :: rest) pos) b) : SndE cx n c env (.BoolOp .And (e :: e₂ :: rest) pos) (.and a b) := by
  intro A σ H s Q E hr hh at0 hw
  simp only [wE_none, wE_boolc, wE_int, wE_str, wE_var, wE_glob, wE_gconst, wE_and, wE_or, wE_not, wE_neg, wE_bin, wE_cmp, wE_cmp2, wE_call, wE_meth, wE_sub, wE_sliceTo, wE_sliceFrom, wE_list, wE_tup, wE_dict0, wE_dict1, wE_listOf, wE_comp, wE_compIf] at hw
  refine BoolOp_and (h.go hr hh at0 hw (fun v p s₁ H₁ r i st a₁ q => ?_) fun _ _ x => x)
  cases p <;> simp only [asB] at q
  rename_i bb
  simp only [Rep] at r
  subst r
  refine wpAny_truthy_bool ?_
  cases bb with
  | true => exact wpAny_post_step st (h' A σ H₁ s₁ Q E hr hh a₁ q)
  | false => exact post_step st _ _ (post_bool i q)
theorem sndT_and {e e₂ : Expr} {rest : List Expr} {pos : Pos} {a b : MExpr} {whole : Sem Value} (h : SndT cx n c env e (eval e env) a) (h' : SndT cx n c env (.BoolOp .And (e₂ :: rest) pos) whole b) : SndT cx n c env (.BoolOp .And (e :: e₂ :: rest) pos) whole (.and a b) := by
  intro A σ H s K E hr hh at0 hw
  simp only [wE_none, wE_boolc, wE_int, wE_str, wE_var, wE_glob, wE_gconst, wE_and, wE_or, wE_not, wE_neg, wE_bin, wE_cmp, wE_cmp2, wE_call, wE_meth, wE_sub, wE_sliceTo, wE_sliceFrom, wE_list, wE_tup, wE_dict0, wE_dict1, wE_listOf, wE_comp, wE_compIf] at hw
  refine isTrue_and (h.go hr hh at0 (K₁ := fun b' H₁ => if b' then wE cx n σ b (boolQ K) E H₁ else K false H₁) hw (fun b s₁ H₁ i st a₁ q => ?_) fun _ _ x => x)
  cases b with
  | true => exact wpAny_mono (h' A σ H₁ s₁ K E hr hh a₁ q) (tpost_step st) (epost_step st)
  | false => exact ⟨H₁, i, st, q⟩
theorem snd_or {e e₂ : Expr} {rest : List Expr} {pos : Pos} {a b : MExpr} (h : SndE cx n c env e a) (h' : SndE cx n c env (.BoolOp .Or (e₂ :: rest) pos) b) : SndE cx n c env (.BoolOp .Or (e :: e₂ :: rest) pos) (.or a b) := by
  intro A σ H s Q E hr hh at0 hw
  simp only [wE_none, wE_boolc, wE_int, wE_str, wE_var, wE_glob, wE_gconst, wE_and, wE_or, wE_not, wE_neg, wE_bin, wE_cmp, wE_cmp2, wE_call, wE_meth, wE_sub, wE_sliceTo, wE_sliceFrom, wE_list, wE_tup, wE_dict0, wE_dict1, wE_listOf, wE_comp, wE_compIf] at hw
  refine BoolOp_or (h.go hr hh at0 hw (fun v p s₁ H₁ r i st a₁ q => ?_) fun _ _ x => x)
  cases p <;> simp only [asB] at q
  rename_i bb
  simp only [Rep] at r
  subst r
  refine wpAny_truthy_bool ?_
  cases bb with
  | false => exact wpAny_post_step st (h' A σ H₁ s₁ Q E hr hh a₁ q)
  | true => exact post_step st _ _ (post_bool i q)
theorem sndT_or {e e₂ : Expr} {rest : List Expr} {pos : Pos} {a b : MExpr} {whole : Sem Value} (h : SndT cx n c env e (eval e env) a) (h' : SndT cx n c env (.BoolOp .Or (e₂ :: rest) pos) whole b) : SndT cx n c env (.BoolOp .Or (e :: e₂ :: rest) pos) whole (.or a b) := by
  intro A σ H s K E hr hh at0 hw
  simp only [wE_none, wE_boolc, wE_int, wE_str, wE_var, wE_glob, wE_gconst, wE_and, wE_or, wE_not, wE_neg, wE_bin, wE_cmp, wE_cmp2, wE_call, wE_meth, wE_sub, wE_sliceTo, wE_sliceFrom, wE_list, wE_tup, wE_dict0, wE_dict1, wE_listOf, wE_comp, wE_compIf] at hw
  refine isTrue_or (h.go hr hh at0 (K₁ := fun b' H₁ => if b' then K true H₁ else wE cx n σ b (boolQ K) E H₁) hw (fun b s₁ H₁ i st a₁ q => ?_) fun _ _ x => x)
  cases b with
  | false => exact wpAny_mono (h' A σ H₁ s₁ K E hr hh a₁ q) (tpost_step st) (epost_step st)
  | true => exact ⟨H₁, i, st, q⟩

/-! lists of expressions -/
theorem snd_nil : SndEs cx n c env [] .nil := fun pos A σ H s Q E hr hh a hw => wpAny_items_nil ⟨[], H, by simp [RepL], a.inv, .refl _ _, by simpa only [wEs_nil, wEs_cons] using hw⟩
theorem snd_cons {e : Expr} {es : List Expr} {m : MExpr} {ms : MExprs} (hst : notStar e = true) (h : SndE cx n c env e m) (h' : SndEs cx n c env es ms) : SndEs cx n c env (e :: es) (.cons m ms) := by
  intro pos A σ H s Q E hr hh a hw
  simp only [wEs_nil, wEs_cons] at hw
  refine wpAny_items_cons (h.go hr hh a hw (fun v p s₁ H₁ r i st a₁ q => h'.go pos hr hh a₁ q (fun vs ps s₂ H₂ rs i₂ st₂ a₂ q₂ => ?_) fun _ _ x => epost_step st _ _ x) fun _ _ x => x) (starEach_cons hst)
  exact ⟨p :: ps, H₂, by simp only [RepL]; exact ⟨st₂.rep i r, rs⟩, i₂, st.trans0 st₂, q₂⟩
theorem snd_list {es : List Expr} {ms : MExprs} {pos : Pos} (h : SndEs cx n c env es ms) : SndE cx n c env (.List es pos) (.list ms) := by
  intro A σ H s Q E hr hh a hw
  simp only [wE_none, wE_boolc, wE_int, wE_str, wE_var, wE_glob, wE_gconst, wE_and, wE_or, wE_not, wE_neg, wE_bin, wE_cmp, wE_cmp2, wE_call, wE_meth, wE_sub, wE_sliceTo, wE_sliceFrom, wE_list, wE_tup, wE_dict0, wE_dict1, wE_listOf, wE_comp, wE_compIf] at hw
  rw [arm_eval_List]
  exact wpAny_bind (wpAny_standAt (wpAny_bind (h.go pos hr hh a hw (fun vs ps s₁ H₁ rs i st a₁ q => wpAny_post_step st (newList_post i rs q.1 q.2)) fun _ _ x => x)))
theorem snd_tup {es : List Expr} {ms : MExprs} {k : Nat} {pos : Pos} (h : SndEs cx n c env es ms) : SndE cx n c env (.Tuple es k pos) (.tup ms) := by
  intro A σ H s Q E hr hh a hw
  simp only [wE_none, wE_boolc, wE_int, wE_str, wE_var, wE_glob, wE_gconst, wE_and, wE_or, wE_not, wE_neg, wE_bin, wE_cmp, wE_cmp2, wE_call, wE_meth, wE_sub, wE_sliceTo, wE_sliceFrom, wE_list, wE_tup, wE_dict0, wE_dict1, wE_listOf, wE_comp, wE_compIf] at hw
  rw [arm_eval_Tuple]
  exact wpAny_bind (wpAny_standAt (wpAny_bind (h.go pos hr hh a hw (fun vs ps s₁ H₁ rs i st a₁ q => wpAny_post_step st (newTuple_post i rs q.1 q.2)) fun _ _ x => x)))

end
end Mine
end

/-! M9c -/
section
set_option autoImplicit false
set_option linter.all false
namespace Mine
open PySem PyProof.Rows

theorem upd_upd (H : Hp) (a : Addr) (o o' : AO) : upd (upd H a o) a o' = upd H a o' := by
  funext b; simp only [upd]; split <;> rfl

section
variable {cx : Cx} {n : Nat} {c : CE} {env : Env}

/-! calls -/
theorem snd_call (ok : CxOk cx) {x : Str} {p pos : Pos} {es : List Expr} {ms : MExprs} (hx : x ∈ cx.globs) (hf : SndE cx n c env (.Name x p) (.glob x)) (h : SndEs cx n c env es ms) (hn : es = [] → ms = .nil) (hst : ∀ e ∈ es, notStar e = true) :
    SndE cx n c env (.Call (.Name x p) es [] pos) (.call (.glob x) ms) := by
  intro A σ H s Q E hr hh a hw
  simp only [wE_none, wE_boolc, wE_int, wE_str, wE_var, wE_glob, wE_gconst, wE_and, wE_or, wE_not, wE_neg, wE_bin, wE_cmp, wE_cmp2, wE_call, wE_meth, wE_sub, wE_sliceTo, wE_sliceFrom, wE_list, wE_tup, wE_dict0, wE_dict1, wE_listOf, wE_comp, wE_compIf] at hw
  refine wpAny_Call_Name_kw (hf.go hr hh a (Q₁ := fun fv H₁ => fv = .g x ∧ wEs cx n σ ms (fun vs H₂ => CallW cx n fv vs Q E H₂) E H₁) (by simp only [wE_none, wE_boolc, wE_int, wE_str, wE_var, wE_glob, wE_gconst, wE_and, wE_or, wE_not, wE_neg, wE_bin, wE_cmp, wE_cmp2, wE_call, wE_meth, wE_sub, wE_sliceTo, wE_sliceFrom, wE_list, wE_tup, wE_dict0, wE_dict1, wE_listOf, wE_comp, wE_compIf]; exact ⟨trivial, hw⟩) (fun v pv s₁ H₁ r i st a₁ q => ?_) fun _ _ x => x)
  obtain ⟨rfl, q⟩ := q
  have hg : cx.G x = some v := by simpa only [Rep] using r
  refine callWith_any (ok.keeps x v hx hg) (args_of h hn hst hr hh a₁ q (fun vs ps s₂ H₂ rs i₂ st₂ a₂ q₂ => ⟨i₂.base, ?_⟩) fun _ _ e => epost_step st _ _ e)
  exact wpAny_post_step (st.trans0 st₂) (q₂ A s₂ (v :: vs) hr hh (by simp only [RepL]; exact ⟨st₂.rep i r, rs⟩) i₂)

inductive BiM : String → Str → String → Prop
  | list_append : BiM "list" "append" "list.append"
  | list_clear : BiM "list" "clear" "list.clear"
  | str_join : BiM "str" "join" "str.join"
theorem getMethod_bi {A : Around} {E : Value → Shared → Prop} {s : Shared} {v : Value} {pl : Sem Bool} {Q : Value × List Value → Shared → Prop} {T : String} {x : Str} {id : String} (hm : BiM T x id) (hT : s.TypeIs v T)
    (hd : ∀ a, v = .ref a → ∃ o, s.heap.get? a = some o ∧ o.dict = none) (h : Q (.builtin id, [v]) s) : wpAny (model cx.prog cx.w) A (getMethod v x pl) Q E s := by
  cases hm
  · exact getMethod_builtin hT F.plainAttrs_list F.slot_list_append F.type_list_append hd h
  · exact getMethod_builtin hT F.plainAttrs_list F.slot_list_clear F.type_list_clear hd h
  · exact getMethod_builtin hT F.plainAttrs_str F.slot_str_join F.type_str_join hd h

noncomputable def Meth.name : Meth → Str
  | .append => "append" | .clear => "clear" | .join => "join"
theorem cMeth_name {x : Str} {m : Meth} (h : cMeth x = some m) : m.name = x := by
  unfold cMeth at h
  split at h
  · rename_i e; cases h; exact (eq_of_beq e).symm
  split at h
  · rename_i e; cases h; exact (eq_of_beq e).symm
  split at h
  · rename_i e; cases h; exact (eq_of_beq e).symm
  · cases h

theorem keepOk_builtin (cx : Cx) (id : String) : KeepOk cx (.builtin id) := fun A E s Q _ q => wpAny_pure (q _)


theorem list_str {o : PV} {H : Hp} {K : Prop} (h : match o with | .ref a => (match H a with | some (.list _) => K | _ => False) | _ => False) : ∃ a l, o = .ref a ∧ H a = some (.list l) ∧ K := by
  cases o <;> try exact h.elim
  rename_i a
  dsimp only at h
  split at h
  · rename_i l hl; exact ⟨a, l, rfl, hl, h⟩
  · exact h.elim
theorem meth_list {A : Around} {E : Value → Shared → Prop} {s : Shared} {H : Hp} {a : Addr} {l : List PV} {v : Value} {x : Str} {id : String} {pl : Sem Bool} {Q : Value × List Value → Shared → Prop} (i : Inv cx H s) (hl : H a = some (.list l)) (r : Rep cx s.heap v (.ref a)) (hm : BiM "list" x id)
    (q : Q (.builtin id, [v]) s) : wpAny (model cx.prog cx.w) A (getMethod v x pl) Q E s := by
  have hv : v = .ref a := by simpa only [Rep] using r
  subst hv
  obtain ⟨vs, k, ho, _⟩ := holds_list (i.ok a _ hl)
  exact getMethod_bi (cx := cx) hm ⟨_, ho, rfl⟩ (fun b e => by cases e; exact ⟨_, ho, rfl⟩) q
set_option maxRecDepth 10000 in
theorem methA_sound {A : Around} {E : Value → Shared → Prop} {s : Shared} {H : Hp} {v : Value} {p : PV} {m : Meth} {K : PV → Prop} {pl : Sem Bool} {Q : Value × List Value → Shared → Prop} (i : Inv cx H s) (r : Rep cx s.heap v p) (h : methA p m K H)
    (q : ∀ f pf, (∀ h, Rep cx h f pf) → KeepOk cx f → K pf → Q (f, [v]) s) : wpAny (model cx.prog cx.w) A (getMethod v m.name pl) Q E s := by
  have bi : ∀ id, K (.bi id) → Q (.builtin id, [v]) s := fun id hK => q (.builtin id) (.bi id) (fun h => by simp [Rep]) (keepOk_builtin cx id) hK
  cases m with
  | join =>
    cases p <;> try exact h.elim
    rename_i x
    obtain ⟨t, rfl⟩ := (by simpa only [Rep] using r : ∃ t, v = _)
    exact getMethod_bi (cx := cx) BiM.str_join (rfl : s.TypeIs (.str x t) "str") (fun a e => by cases e) (bi _ h)
  | append =>
    obtain ⟨a, l, rfl, hl, hK⟩ := list_str h
    exact meth_list i hl r .list_append (bi _ hK)
  | clear =>
    obtain ⟨a, l, rfl, hl, hK⟩ := list_str h
    exact meth_list i hl r .list_clear (bi _ hK)

theorem snd_meth {o : Expr} {x : Str} {mm : Meth} (hx : cMeth x = some mm) {apos pos : Pos} {es : List Expr} {m : MExpr} {ms : MExprs} (hns : notSuper o = true) (hline : (apos.endLine == pos.line) = true) (hlen : es.length < 20)
    (hf : SndE cx n c env o m) (h : SndEs cx n c env es ms) (hn : es = [] → ms = .nil) (hst : ∀ e ∈ es, notStar e = true) : SndE cx n c env (.Call (.Attribute o x apos) es [] pos) (.meth m mm ms) := by
  intro A σ H s Q E hr hh a hw
  simp only [wE_none, wE_boolc, wE_int, wE_str, wE_var, wE_glob, wE_gconst, wE_and, wE_or, wE_not, wE_neg, wE_bin, wE_cmp, wE_cmp2, wE_call, wE_meth, wE_sub, wE_sliceTo, wE_sliceFrom, wE_list, wE_tup, wE_dict0, wE_dict1, wE_listOf, wE_comp, wE_compIf] at hw
  refine call_meth hns hline hlen hst (hf.go hr hh a hw (fun v pv s₁ H₁ r i st a₁ q pl => ?_) fun _ _ x => x)
  have := methA_sound (A := A) (E := EPost cx s H E) (pl := pl) (Q := fun r s₂ => wpAny (model cx.prog cx.w) A (callWith pos r.1 r.2 (backTo pos (starEach es env)) []) (Post cx s H Q) (EPost cx s H E) s₂) i r q (fun f pf rf kf q => ?_)
  · rw [cMeth_name hx] at this; exact this
  refine callWith_any kf (args_of h hn hst hr hh a₁ q (fun vs ps s₂ H₂ rs i₂ st₂ a₂ q₂ => ⟨i₂.base, ?_⟩) fun _ _ e => epost_step st _ _ e)
  exact wpAny_post_step (st.trans0 st₂) (q₂ A s₂ (f :: v :: vs) hr hh (by simp only [RepL]; exact ⟨rf _, st₂.rep i r, rs⟩) i₂)

/-! subscripts -/
theorem subscripted_plain {slice : Expr} {o i : Value} (h : isSlice slice = false) : subscripted slice false o i = operate [o, i] (getItem o i) := by
  cases slice <;> first | rfl | (simp [isSlice] at h)
theorem tail_post {A : Around} {s s₀ : Shared} {H H₀ : Hp} {Q : PV → Hp → Prop} {E : Addr → Hp → Prop} {value slice : Expr} {o i : Value} {ops : List Value} {T id : String} (st : Step noF s₀ H₀ s H) (hT : s.TypeIs o T)
    (hl : typeLookup (.type T) "__getitem__" = pure (some (.builtin id))) (hs : subscripted slice false o i = operate ops (getItem o i))
    (hg : wpAny (model cx.prog cx.w) A (getItem o i) (Post cx s H Q) (EPost cx s H E) s) : wpAny (model cx.prog cx.w) A (subscriptTail value slice o i) (Post cx s₀ H₀ Q) (EPost cx s₀ H₀ E) s :=
  tail_any hT hl (wpAny_post_step st hg) hs

theorem itemA_int {l : List PV} {i : PV} {Q : PV → Hp → Prop} {H : Hp} (h : itemA l i Q H) : ∃ k, i = .int k ∧ (-(2 ^ 62) < k ∧ k < 2 ^ 62) ∧ ∃ p, idx l k = some p ∧ Q p H := by
  cases i <;> first | exact h.elim | exact ⟨_, rfl, h⟩
theorem idx_chars {x : Str} {k : Int} {p : PV} (h : idx (chars x) k = some p) : ∃ c, idx x.cps.toList k = some c ∧ p = chr c := by
  unfold idx chars at h
  unfold idx
  simp only [List.length_map, List.getElem?_map] at h
  split at h
  · obtain ⟨c, h1, h2⟩ := Option.map_eq_some_iff.mp h; exact ⟨c, by rw [if_pos (by assumption)]; exact h1, h2.symm⟩
  · split at h
    · obtain ⟨c, h1, h2⟩ := Option.map_eq_some_iff.mp h; exact ⟨c, by rw [if_neg (by assumption), if_pos (by assumption)]; exact h1, h2.symm⟩
    · cases h
theorem subA_sound {A : Around} {s s₀ : Shared} {H H₀ : Hp} {Q : PV → Hp → Prop} {E : Addr → Hp → Prop} {value slice : Expr} {o i : Value} {po pi : PV} (hr : Room n A) (st : Step noF s₀ H₀ s H) (inv : Inv cx H s) (ro : Rep cx s.heap o po) (ri : Rep cx s.heap i pi)
    (hs : isSlice slice = false) (h : subA po pi Q H) : wpAny (model cx.prog cx.w) A (subscriptTail value slice o i) (Post cx s₀ H₀ Q) (EPost cx s₀ H₀ E) s := by
  cases po <;> try exact h.elim
  case tup l =>
    obtain ⟨k, rfl, hk, p, e, q⟩ := itemA_int h
    obtain ⟨t, rfl⟩ := (by simpa only [Rep] using ri : ∃ t, i = _)
    have hT : s.TypeIs o "tuple" := by obtain ⟨a, vs, n, rfl, ho, _⟩ := rep_tup ro; exact ⟨_, ho, rfl⟩
    exact tail_post st hT slot_tuple_getitem.lookup (subscripted_plain hs) (item_tup inv ro hk e q)
  case str x =>
    obtain ⟨k, rfl, hk, p, e, q⟩ := itemA_int h
    obtain ⟨t, rfl⟩ := (by simpa only [Rep] using ri : ∃ t, i = _)
    obtain ⟨u, rfl⟩ := (by simpa only [Rep] using ro : ∃ t, o = _)
    obtain ⟨c, e', rfl⟩ := idx_chars e
    exact tail_post (T := "str") st rfl F.slot_str_getitem.lookup (subscripted_plain hs) (item_str inv hk e' q)
  case ref a =>
    have ho : o = .ref a := by simpa only [Rep] using ro
    subst ho
    dsimp only [subA] at h
    split at h
    · rename_i l hl
      obtain ⟨k, rfl, hk, p, e, q⟩ := itemA_int h
      obtain ⟨t, rfl⟩ := (by simpa only [Rep] using ri : ∃ t, i = _)
      obtain ⟨vs, m, ho, rl⟩ := holds_list (inv.ok a _ hl)
      exact tail_post (T := "list") st ⟨_, ho, rfl⟩ slot_list_getitem.lookup (subscripted_plain hs) (item_list inv ⟨_, ho, rfl, m, rfl⟩ rl hk e q)
    · rename_i ob l hl
      obtain ⟨k, rfl, hk, p, e, q⟩ := itemA_int h
      obtain ⟨t, rfl⟩ := (by simpa only [Rep] using ri : ∃ t, i = _)
      have := inv.ok a _ hl
      simp only [HoldsO] at this
      obtain ⟨ho, vs, m, ⟨hc, hd⟩, rl⟩ := this
      exact tail_post (T := "list") st ⟨_, ho, hc⟩ slot_list_getitem.lookup (subscripted_plain hs) (item_list inv ⟨_, ho, hc, m, hd⟩ rl hk e q)
    · exact h.elim
theorem cutA_int {o i : PV} {f : {α : Type} → List α → Int → List α} {Q : PV → Hp → Prop} {H : Hp} (h : cutA o i f Q H) : ∃ k, i = .int k ∧ ((∃ l, o = .tup l ∧ l.length ≤ sizeLine ∧ Q (.tup (f l k)) H) ∨ ∃ x, o = .str x ∧ x.length ≤ sizeLine ∧ Q (.str ⟨(f x.cps.toList k).toArray⟩) H) := by
  cases i <;> try exact h.elim
  refine ⟨_, rfl, ?_⟩
  obtain ⟨_, h⟩ := h
  cases o <;> first | exact h.elim | exact .inl ⟨_, rfl, h⟩ | exact .inr ⟨_, rfl, h⟩

theorem snd_sub {o i : Expr} {pos : Pos} {mo mi : MExpr} (hs : isSlice i = false) (ho : SndE cx n c env o mo) (hi : SndE cx n c env i mi) : SndE cx n c env (.Subscript o i pos) (.sub mo mi) := by
  intro A σ H s Q E hr hh a hw
  simp only [wE_none, wE_boolc, wE_int, wE_str, wE_var, wE_glob, wE_gconst, wE_and, wE_or, wE_not, wE_neg, wE_bin, wE_cmp, wE_cmp2, wE_call, wE_meth, wE_sub, wE_sliceTo, wE_sliceFrom, wE_list, wE_tup, wE_dict0, wE_dict1, wE_listOf, wE_comp, wE_compIf] at hw
  refine Subscript_ (ho.go hr hh a hw (fun v p s₁ H₁ r1 i1 st1 a1 q1 => hi.go hr hh a1 q1 (fun u p' s₂ H₂ r2 i2 st2 a2 q2 => ?_) fun _ _ x => epost_step st1 _ _ x) fun _ _ x => x)
  exact subA_sound hr (st1.trans0 st2) i2 (st2.rep i1 r1) r2 hs q2

theorem typeIs_push {s : Shared} {v : Value} {T : String} {o : Obj} (h : s.TypeIs v T) : ({ s with heap := s.heap.push o } : Shared).TypeIs v T := by
  cases v with
  | ref a => obtain ⟨ob, h1, h2⟩ := h; exact ⟨ob, Heap.get?_push_of_some _ h1, h2⟩
  | _ => exact h

theorem snd_slTo {o i : Expr} {pos pos' : Pos} {mo mi : MExpr} (ho : SndE cx n c env o mo) (hi : SndE cx n c env i mi) : SndE cx n c env (.Subscript o (.Slice none (some i) none pos') pos) (.sliceTo mo mi) := by
  intro A σ H s Q E hr hh a hw
  simp only [wE_none, wE_boolc, wE_int, wE_str, wE_var, wE_glob, wE_gconst, wE_and, wE_or, wE_not, wE_neg, wE_bin, wE_cmp, wE_cmp2, wE_call, wE_meth, wE_sub, wE_sliceTo, wE_sliceFrom, wE_list, wE_tup, wE_dict0, wE_dict1, wE_listOf, wE_comp, wE_compIf] at hw
  refine Subscript_ (ho.go hr hh a hw (fun v p s₁ H₁ r1 i1 st1 a1 q1 => wpAny_Slice (evalPart_none_step (evalPart_some_step (hi.go hr hh a1 q1 (fun u p' s₂ H₂ r2 i2 st2 a2 q2 => evalPart_none_step ?_) fun _ _ x => epost_step st1 _ _ x)))) fun _ _ x => x)
  have hk : ∀ b ob, s₂.heap.get? b = some ob → (s₂.heap.push { cls := .type "slice", data := .fields #[.none, u, .none] }).get? b = some ob := push_keep _ _
  have i3 : Inv cx H₂ { s₂ with heap := s₂.heap.push { cls := .type "slice", data := .fields #[.none, u, .none] } } := i2.grown hk
  have st3 : Step noF s H { s₂ with heap := s₂.heap.push { cls := .type "slice", data := .fields #[.none, u, .none] } } H₂ := (st1.trans0 st2).trans0 (.grown ⟨_, _, rfl⟩ hk)
  have rv := rep_grown hk (st2.rep i1 r1)
  have hsl := Heap.IsSliceOf.new s₂.heap .none u .none
  obtain ⟨k, rfl, ⟨l, rfl, h1, h2⟩ | ⟨x, rfl, h1, h2⟩⟩ := cutA_int q2
  · obtain ⟨t, rfl⟩ := (by simpa only [Rep] using r2 : ∃ t, u = _)
    have hT : s₂.TypeIs v "tuple" := by obtain ⟨a, vs, n, rfl, ho, _⟩ := rep_tup (st2.rep i1 r1); exact ⟨_, ho, rfl⟩
    exact tail_post st3 (typeIs_push hT) slot_tuple_getitem.lookup rfl (sl_tup_to i3 rv hsl h1 h2)
  · obtain ⟨t, rfl⟩ := (by simpa only [Rep] using r2 : ∃ t, u = _)
    obtain ⟨t', rfl⟩ := (by simpa only [Rep] using r1 : ∃ t, v = _)
    exact tail_post (T := "str") st3 rfl F.slot_str_getitem.lookup rfl (sl_str_to i3 hsl h1 h2)

theorem snd_slFrom {o i : Expr} {pos pos' : Pos} {mo mi : MExpr} (ho : SndE cx n c env o mo) (hi : SndE cx n c env i mi) : SndE cx n c env (.Subscript o (.Slice (some i) none none pos') pos) (.sliceFrom mo mi) := by
  intro A σ H s Q E hr hh a hw
  simp only [wE_none, wE_boolc, wE_int, wE_str, wE_var, wE_glob, wE_gconst, wE_and, wE_or, wE_not, wE_neg, wE_bin, wE_cmp, wE_cmp2, wE_call, wE_meth, wE_sub, wE_sliceTo, wE_sliceFrom, wE_list, wE_tup, wE_dict0, wE_dict1, wE_listOf, wE_comp, wE_compIf] at hw
  refine Subscript_ (ho.go hr hh a hw (fun v p s₁ H₁ r1 i1 st1 a1 q1 => wpAny_Slice (evalPart_some_step (hi.go hr hh a1 q1 (fun u p' s₂ H₂ r2 i2 st2 a2 q2 => evalPart_none_step (evalPart_none_step ?_)) fun _ _ x => epost_step st1 _ _ x))) fun _ _ x => x)
  have hk : ∀ b ob, s₂.heap.get? b = some ob → (s₂.heap.push { cls := .type "slice", data := .fields #[u, .none, .none] }).get? b = some ob := push_keep _ _
  have i3 : Inv cx H₂ { s₂ with heap := s₂.heap.push { cls := .type "slice", data := .fields #[u, .none, .none] } } := i2.grown hk
  have st3 : Step noF s H { s₂ with heap := s₂.heap.push { cls := .type "slice", data := .fields #[u, .none, .none] } } H₂ := (st1.trans0 st2).trans0 (.grown ⟨_, _, rfl⟩ hk)
  have rv := rep_grown hk (st2.rep i1 r1)
  have hsl := Heap.IsSliceOf.new s₂.heap u .none .none
  obtain ⟨k, rfl, ⟨l, rfl, h1, h2⟩ | ⟨x, rfl, h1, h2⟩⟩ := cutA_int q2
  · obtain ⟨t, rfl⟩ := (by simpa only [Rep] using r2 : ∃ t, u = _)
    have hT : s₂.TypeIs v "tuple" := by obtain ⟨a, vs, n, rfl, ho, _⟩ := rep_tup (st2.rep i1 r1); exact ⟨_, ho, rfl⟩
    exact tail_post st3 (typeIs_push hT) slot_tuple_getitem.lookup rfl (sl_tup_from i3 rv hsl h1 h2)
  · obtain ⟨t, rfl⟩ := (by simpa only [Rep] using r2 : ∃ t, u = _)
    obtain ⟨t', rfl⟩ := (by simpa only [Rep] using r1 : ∃ t, v = _)
    exact tail_post (T := "str") st3 rfl F.slot_str_getitem.lookup rfl (sl_str_from i3 hsl h1 h2)

/-! dicts -/
theorem snd_dict0 {pos : Pos} : SndE cx n c env (.Dict [] [] pos) .dict0 := by
  intro A σ H s Q E hr hh a hw
  simp only [wE_none, wE_boolc, wE_int, wE_str, wE_var, wE_glob, wE_gconst, wE_and, wE_or, wE_not, wE_neg, wE_bin, wE_cmp, wE_cmp2, wE_call, wE_meth, wE_sub, wE_sliceTo, wE_sliceFrom, wE_list, wE_tup, wE_dict0, wE_dict1, wE_listOf, wE_comp, wE_compIf] at hw
  rw [eval_Dict_empty]
  refine wpAny_bind (wpAny_standAt (wpAny_newObj_type (post_new a.inv (push_keep _ _) (get?_size_none _) ?_ (hw _ a.inv.fresh))))
  simp only [HoldsO]
  exact ⟨_, #[], 0, Heap.get?_push_size _ rfl, rfl, rfl⟩

set_option maxHeartbeats 1000000 in
theorem snd_dict1 {k v : Expr} {pos : Pos} {mk mv : MExpr} (hk : SndE cx n c env k mk) (hv : SndE cx n c env v mv) : SndE cx n c env (.Dict [some k] [v] pos) (.dict1 mk mv) := by
  intro A σ H s Q E hr hh a hw
  simp only [wE_none, wE_boolc, wE_int, wE_str, wE_var, wE_glob, wE_gconst, wE_and, wE_or, wE_not, wE_neg, wE_bin, wE_cmp, wE_cmp2, wE_call, wE_meth, wE_sub, wE_sliceTo, wE_sliceFrom, wE_list, wE_tup, wE_dict0, wE_dict1, wE_listOf, wE_comp, wE_compIf] at hw
  have hshape : (evalEachOpt [some k] env).zip ((evalEach [v] env).map fun v => do let x ← v; standAt pos; pure x) = [(eval k env, (do let x ← eval v env; standAt pos; pure x : Sem Value))].map fun p => (some p.1, p.2) := rfl
  rw [arm_eval_Dict, hshape, dictDisplay_pairs _ (by simp) (by simp)]
  refine wpAny_bind (wpAny_standAt (wpAny_bind ?_))
  unfold subDict
  refine wpAny_bind (wpAny_alloc (wpAny_bind (wpAny_holding ?_)))
  rw [if_pos (by simp)]
  generalize hD : s.heap.objs.size = D
  have hk0 : ∀ b ob, s.heap.get? b = some ob → (s.heap.push { cls := .type "dict", data := .dict #[] }).get? b = some ob := push_keep _ _
  have st0 : Step noF s H { s with heap := s.heap.push { cls := .type "dict", data := .dict #[] } } H := .grown ⟨_, _, rfl⟩ hk0
  have a0 := a.step st0 (a.inv.grown hk0)
  have hD0 : (s.heap.push { cls := .type "dict", data := .dict #[] }).get? D = some ⟨.type "dict", none, .dict #[] 0, #[]⟩ := by rw [← hD]; exact Heap.get?_push_size _ rfl
  have hDs : s.heap.get? D = none := by rw [← hD]; exact get?_size_none _
  have hDH : H D = none := by rw [← hD]; exact a.inv.fresh
  refine wpAny_bind (evalPairs_cons (hk.go hr hh a0 hw (fun kv kp s₁ H₁ r1 i1 st1 a1 q1 => ?_) fun _ _ x => epost_step st0 _ _ x))
  refine wpAny_bind (hv.go hr hh a1 q1 (fun vv vp s₂ H₂ r2 i2 st2 a2 q2 => ?_) fun _ _ x => epost_step (st0.trans0 st1) _ _ x)
  refine wpAny_bind (wpAny_standAt (wpAny_pure (evalPairs_nil ?_)))
  have st02 := st1.trans0 st2
  have hD2 := st02.keep D _ (fun h => h.elim (fun h => h hDH) id) hD0
  have hDH2 : H₂ D = none := by
    cases e : H₂ D with
    | none => rfl
    | some o => rcases st02.grow D (by rw [e]; simp) with h | h
                · exact absurd hDH h
                · rw [show _ = some _ from hD0] at h; cases h
  cases kp <;> try exact q2.elim
  rename_i kk
  obtain ⟨tk, rfl⟩ := (by simpa only [Rep] using r1 : ∃ t, kv = _)
  refine wpAny_holding ?_
  rw [List.forIn_cons]
  refine wpAny_bind ?_
  refine wpAny_bind ?_
  show wpAny _ A (dictSet D (.int kk tk) vv >>= fun _ => pure (ForInStep.yield PUnit.unit)) _ _ _
  have hm : s₂.heap.IntMap D fun _ => none := ⟨_, #[], 0, hD2, rfl, rfl, by intro e he; simp at he, fun k => rfl⟩
  refine wpAny_bind (wpAny_dictSet_int hm (fun h' hm' sb => ?_) (fun o es ep h1 h2 => by rw [hD2] at h1; injection h1 with h1; subst h1; cases h2; simp))
  refine wpAny_pure ?_
  dsimp only
  rw [List.forIn_nil]
  refine wpAny_pure (wpAny_pure (wpAny_pure (wpAny_pure ?_)))
  have i2' : Inv cx H₂ { s₂ with heap := h', toks := s₂.toks + 1 } := Inv.side (X := fun b => b = D) (s' := { s₂ with heap := h', toks := s₂.toks + 1 }) i2 (keep_same sb) (fun b e => by subst e; exact hDH2) (fun b o e hb => by subst e; have := a.inv.base _ o hb; rw [hDs] at this; cases this) (noTup_single hD2 rfl (by decide))
  have hH : HoldsO cx h' D .dict := by
    simp only [HoldsO]
    obtain ⟨o, es, ep, h1, h2, h3, _⟩ := hm'
    exact ⟨o, es, ep, h1, h2, h3⟩
  have ia := i2'.adopt (a := D) (o := .dict) (fun o hb => by have := a.inv.base D o hb; rw [hDs] at this; cases this) hH
  refine ⟨.ref D, _, by simp [Rep], ia, ?_, q2 D hDH2⟩
  have st3 : Step noF s H { s₂ with heap := h', toks := s₂.toks + 1 } H₂ := Step.side (X := fun b => b = D) (st0.trans0 st02) ⟨h', s₂.toks + 1, rfl⟩ (keep_same sb) (fun b e => by subst e; exact hDs)
  exact st3.adopt hDs

end
end Mine
end

/-! M9d -/
section
set_option autoImplicit false
set_option linter.all false
namespace Mine
open PySem PyProof.Rows

theorem keepOk_type (cx : Cx) (T : String) : KeepOk cx (.type T) := fun A E s Q _ q => wpAny_pure (q _)

section
variable {cx : Cx} {n : Nat} {c : CE} {env : Env}

/-- a builtin's name that nothing hides -/
theorem isB_sound (ok : CxOk cx) (fx : FxOk cx c env) {A : Around} {E : Value → Shared → Prop} {s : Shared} {H : Hp} {x y : Str} {T : String} {p : Pos} {Q : Value → Shared → Prop} (hb : isB cx.globs cx.consts c x y = true) (hy : (y, T) ∈ bTypes)
    (hd : (y == ("__debug__" : Str)) = false) (i : Inv cx H s) (q : Q (.type T) s) : wpAny (model cx.prog cx.w) A (eval (.Name x p) env) Q E s := by
  unfold isB at hb
  simp only [Bool.and_eq_true, beq_iff_eq, List.contains_iff_mem] at hb
  obtain ⟨⟨⟨⟨hxy, _⟩, hk⟩, hg⟩, _⟩ := hb
  subst hxy
  exact Ns.globals ok i fx hg (ok.types (x, T) hy hg) (by unfold Env.kindOf; rw [fx.names]; exact hk) hd q

theorem call_type1 {A : Around} {E' : Value → Shared → Prop} {σ : List (Option PV)} {s : Shared} {H : Hp} {e : Expr} {m : MExpr} {T : String} {pos : Pos} {E : Addr → Hp → Prop} {Q₁ : PV → Hp → Prop} (hst : notStar e = true) (h : SndE cx n c env e m) (hr : Room n A) (hh : A.handled = none)
    (a : At cx c env σ H s) (hw : wE cx n σ m Q₁ E H) {K : Value → Shared → Prop}
    (k : ∀ v p s₁ H₁, Rep cx s₁.heap v p → Inv cx H₁ s₁ → Step noF s H s₁ H₁ → At cx c env σ H₁ s₁ → Q₁ p H₁ → wpAny (model cx.prog cx.w) A (call (.type T) [v]) K E' s₁) (he : ∀ x s', EPost cx s H E x s' → E' x s') :
    wpAny (model cx.prog cx.w) A (callWith pos (.type T) [] (backTo pos (starEach [e] env)) (backToKw pos (keywordEach [] env))) K E' s := by
  refine callWith_any (keepOk_type cx T) ?_
  rw [starEach_cons hst]
  refine Calls.evalArgs_plain (Calls.spliced_cons (h.go hr hh a hw (fun v p s₁ H₁ r i st a₁ q => Calls.spliced_nil ⟨i.base, ?_⟩) he))
  exact k v p s₁ H₁ r i st a₁ q
/-! what is gone through -/
theorem sndI_ex (ok : CxOk cx) {e : Expr} {m : MExpr} (h : SndE cx n c env e m) : SndI cx n c env e (.ex m) := by
  intro t A σ H s Q E hr hh a h1 hw
  simp only [wIt_ex, wIt_enum, wIt_rng] at hw
  exact h.go hr hh a hw (fun v p s₁ H₁ r i st a₁ q => wpAny_mono (it_ex ok i r q) (itPost_step st) fun _ _ x => x) fun _ _ x => x
theorem sndI_enum (ok : CxOk cx) (fx : FxOk cx c env) {e : Expr} {m : MExpr} {x : Str} {p pos : Pos} (hb : isB cx.globs cx.consts c x "enumerate" = true) (hst : notStar e = true) (h : SndE cx n c env e m) : SndI cx n c env (.Call (.Name x p) [e] [] pos) (.enum m) := by
  intro t A σ H s Q E hr hh a h1 hw
  simp only [wIt_ex, wIt_enum, wIt_rng] at hw
  refine wpAny_Call_Name_kw (isB_sound ok fx hb (T := "enumerate") (by simp [bTypes]) (by decide) a.inv ?_)
  refine call_type1 hst h hr hh a hw (fun v p s₁ H₁ r i st a₁ q => ?_) fun _ _ x => x
  exact wpAny_mono (it_enum (tq := fun e => e = t) i r q fun e he => by subst he; exact h1 _ rfl) (fun it s' h' => wpAny_mono h' (itPost_step st) fun _ _ x => x) fun _ _ x => x
theorem sndI_rng (ok : CxOk cx) (fx : FxOk cx c env) {e : Expr} {m : MExpr} {x : Str} {p pos : Pos} (hb : isB cx.globs cx.consts c x "range" = true) (hst : notStar e = true) (h : SndE cx n c env e m) : SndI cx n c env (.Call (.Name x p) [e] [] pos) (.rng m) := by
  intro t A σ H s Q E hr hh a h1 hw
  simp only [wIt_ex, wIt_enum, wIt_rng] at hw
  refine wpAny_Call_Name_kw (isB_sound ok fx hb (T := "range") (by simp [bTypes]) (by decide) a.inv ?_)
  refine call_type1 hst h hr hh a hw (fun v p s₁ H₁ r i st a₁ q => ?_) fun _ _ x => x
  cases p <;> simp only [asI] at q
  · rename_i k
    obtain ⟨t, rfl⟩ := (by simpa only [Rep] using r : ∃ t, v = _)
    refine call_range_1 ?_
    have hk := push_keep s₁.heap { cls := .type "range", data := .fields #[.int 0 s₁.toks, .int k t, .int 1 (s₁.toks + 1)] }
    exact wpAny_mono (it_range (i.grown hk) (IsRange.new ..) (range_small (by decide) q.1) q.2) (itPost_step (st.trans0 (.grown ⟨_, _, rfl⟩ hk))) fun _ _ x => x
/-! list(..) -/
theorem snd_listOf (ok : CxOk cx) (fx : FxOk cx c env) {e : Expr} {m : MExpr} {x : Str} {p pos : Pos} (hb : isB cx.globs cx.consts c x "list" = true) (hst : notStar e = true) (h : SndE cx n c env e m) :
    SndE cx n c env (.Call (.Name x p) [e] [] pos) (.listOf m) := by
  intro A σ H s Q E hr hh a hw
  simp only [wE_none, wE_boolc, wE_int, wE_str, wE_var, wE_glob, wE_gconst, wE_and, wE_or, wE_not, wE_neg, wE_bin, wE_cmp, wE_cmp2, wE_call, wE_meth, wE_sub, wE_sliceTo, wE_sliceFrom, wE_list, wE_tup, wE_dict0, wE_dict1, wE_listOf, wE_comp, wE_compIf] at hw
  refine wpAny_Call_Name_kw (isB_sound ok fx hb (T := "list") (by simp [bTypes]) (by decide) a.inv ?_)
  refine call_type1 hst h hr hh a hw (fun v p s₁ H₁ r i st a₁ q => ?_) fun _ _ x => x
  refine wpAny_post_step st ?_
  cases p <;> simp only [lotA] at q
  case tup l =>
    obtain ⟨b, vs, k, rfl, ho, rl⟩ := rep_tup r
    have hlen := repL_length rl
    simp only [Array.length_toList] at hlen
    refine call_list_seq b (.inr rfl) ho rfl rfl (fun h' c' hk hn => post_new (n := s₁.toks) i hk (get?_size_none _) ?_ (q.2 _ i.fresh)) (by omega)
    simp only [HoldsO]
    exact ⟨vs, c', hn, repL_grown hk rl⟩
  case ref b =>
    have hv : v = .ref b := by simpa only [Rep] using r
    subst hv
    split at q
    · rename_i l hl
      obtain ⟨vs, k, ho, rl⟩ := holds_list (i.ok b _ hl)
      have hlen := repL_length rl
      simp only [Array.length_toList] at hlen
      refine call_list_seq b (.inl rfl) ho rfl rfl (fun h' c' hk hn => post_new (n := s₁.toks) i hk (get?_size_none _) ?_ (q.2 _ i.fresh)) (by omega)
      simp only [HoldsO]
      exact ⟨vs, c', hn, repL_grown hk rl⟩
    · exact q.elim

/-! comprehensions -/
theorem post_letgo {s s' : Shared} {H H' : Hp} {C : Addr} {m : Str → Option Value} {h' : Heap} {Q : PV → Hp → Prop} {v : Value} {p : PV} (hs : s.heap.get? C = none) (hb : ∀ o, ¬ cx.base C o) (hn : s'.heap.Ns C m) (hH : H' C = none) (i : Inv cx H' s') (st : Step noF s H s' H')
    (sb : Heap.SameBut C s'.heap h') (r : Rep cx s'.heap v p) (q : Q p H') : Post cx s H Q v { s' with heap := h' } := by
  have nt : NoTup s'.heap (fun b => b = C) := by
    intro b hb vs k e
    subst hb
    obtain ⟨o, es, ep, ho, hd, _⟩ := hn
    rw [e] at ho; injection ho with ho; subst ho; simp at hd
  have kp := keep_same sb
  exact ⟨p, H', rep_keep (tup_keep nt kp) _ r, i.side kp (fun b e => by subst e; exact hH) (fun b o e => by subst e; exact hb o) nt, st.side (same_heap _ _) kp (fun b e => by subst e; exact hs), q⟩

theorem turn_plain {A : Around} {c' : CE} {elt : Expr} {m : MExpr} {σ' : List (Option PV)} {K : Option PV → Hp → Prop} {H' : Hp} (hr : Room n A) (hh : A.handled = none) (h : ∀ cenv, FxOk cx c' cenv → SndE cx n c' cenv elt m)
    (hw : wE cx n σ' m (fun p H₃ => K (some p) H₃) noE H') : TurnOk cx A c' [] elt σ' K H' := by
  intro cenv s fx a
  rw [List.forIn_nil]
  refine wpAny_pure ?_
  rw [if_pos rfl]
  exact (h cenv fx).go hr hh a hw (fun v p s₁ H₁ r i st a₁ q => ⟨p, H₁, r, i, st, q⟩) fun _ _ x => by obtain ⟨_, _, _, _, _, h⟩ := x; exact h.elim
theorem turn_if {A : Around} {c' : CE} {cnd elt : Expr} {q m : MExpr} {σ' : List (Option PV)} {K : Option PV → Hp → Prop} {H' : Hp} (hr : Room n A) (hh : A.handled = none) (hq : ∀ cenv, FxOk cx c' cenv → SndT cx n c' cenv cnd (eval cnd cenv) q) (h : ∀ cenv, FxOk cx c' cenv → SndE cx n c' cenv elt m)
    (hw : wE cx n σ' q (fun v H₃ => asB v fun x => if x = true then wE cx n σ' m (fun p H₄ => K (some p) H₄) noE H₃ else K none H₃) noE H') : TurnOk cx A c' [cnd] elt σ' K H' := by
  intro cenv s fx a
  rw [List.forIn_cons]
  have hw' : wE cx n σ' q (boolQ fun b H₃ => if b then wE cx n σ' m (fun p H₄ => K (some p) H₄) noE H₃ else K none H₃) noE H' := hw
  refine wpAny_bind ?_
  rw [if_pos rfl]
  refine wpAny_bind ((hq cenv fx).go hr hh a hw' (fun b s₁ H₁ i st a₁ k => wpAny_pure ?_) fun _ _ x => by obtain ⟨_, _, _, _, _, h⟩ := x; exact h.elim)
  dsimp only
  rw [List.forIn_nil]
  refine wpAny_pure ?_
  cases b with
  | true =>
    simp only [if_true] at k ⊢
    exact (h cenv fx).go hr hh a₁ k (fun v p s₂ H₂ r i₂ st₂ a₂ q => ⟨p, H₂, r, i₂, st.trans0 st₂, q⟩) fun _ _ x => by obtain ⟨_, _, _, _, _, h⟩ := x; exact h.elim
  | false =>
    simp only [Bool.false_eq_true, if_false] at k ⊢
    exact ⟨H₁, i, st, k⟩

/-- any comprehension, with what is done with its list -/
theorem comp_any (fx : FxOk cx c env) {A : Around} {σ : List (Option PV)} {s : Shared} {H : Hp} {elt t iter : Expr} {ifs : List Expr} {scope : Scope} {pos pos' : Pos} {c' : CE} {mt : MTgt} {it : MIter} {E : Addr → Hp → Prop} {Q : PV → Hp → Prop} {f : PV → (Option PV → Hp → Prop) → Hp → Prop}
    {use : Option (Value → Sem Unit)} {R : Value → Shared → Prop} {E' : Value → Shared → Prop}
    (hr : Room n A) (hh : A.handled = none) (a : At cx c env σ H s) (hc : compCE c scope t = some (c', mt)) (hset : notSet iter = true) (hfit : tgtFits it mt = true) (hI : SndI cx n c env iter it)
    (hw : wIt cx n σ it (fun items dep H₁ => items.length ≤ sizeLine ∧ compW dep f items [] Q H₁) E H)
    (hturn : ∀ x K H', f x K H' → ∃ σ', bindT (σ ++ [none, none]) mt x = some σ' ∧ TurnOk cx A c' ifs elt σ' K H') (he : ∀ x s', EPost cx s H E x s' → E' x s')
    (hR : ∀ D C s' H' m acc, s.heap.get? D = none → s.heap.get? C = none → D ≠ C → s'.heap.Ns C m → H' C = none → Inv cx (upd H' D (.list acc)) s' → Step noF s H s' (upd H' D (.list acc)) → Q (.ref D) (upd H' D (.list acc)) →
      compPost (model cx.prog cx.w) A E' use R (.ref D) C (.ok .next) s') :
    wpAny (model cx.prog cx.w) A (comprehension (.ListComp elt [⟨t, iter, ifs, 0⟩] scope pos) scope env pos' (newList []) false (eval iter env) use) R E' s := by
  have co := compOk_of fx hc
  have hfree : ∀ x ∈ scope.names, x.2 = .free → ∃ a, env.cells.lookup x.1 = some a := fun x hx hf => by
    obtain ⟨y, k⟩ := x
    dsimp only at hf
    subst hf
    obtain ⟨h1, i, h2⟩ := co.free y hx
    rcases fx.vars y i h2 with h | h
    · unfold Env.kindOf at h; rw [fx.names, h1] at h; simp at h
    · exact h.2
  obtain ⟨cl, hcl, hin, hfr, hp⟩ := closure_of fx hfree co.nd
  have hloc : ∀ x ∈ scope.names, x.2 = .local → scope.names.lookup x.1 = some .local := fun x hx hl => by
    obtain ⟨y, k⟩ := x
    dsimp only at hl
    subst hl
    exact lookup_of_mem co.nd hx
  refine wpAny_comprehension_free (g := ⟨t, iter, ifs, 0⟩) (gs := []) rfl (fun x => folded_plain hset) hcl co.kind hloc ?_
  have htup : ∀ i j, mt = .two i j → isTupleT t := fun i j e => by
    have := co.tgt
    rw [e] at this
    cases this
    trivial
  refine wpAny_mono (hI t A σ H s _ E hr hh a (fun x e => ?_) hw) (fun x s₁ h₁ => wpAny_mono h₁ (fun it' s₂ h₂ => ?_) he) he
  · subst e
    cases mt with
    | var i => simp [tgtFits] at hfit
    | two i j => exact htup i j rfl
  obtain ⟨I, items, dep, tok, wr, St, Mid, H₂, rfl, W, hst, i₂, st₂, hw1, hw2, ht, hsz, hcw⟩ := h₂
  exact comp_block hh fx a co hin hfr hp W hst i₂ st₂ hw1 hw2 (ht t rfl) hsz hcw hturn hR

theorem snd_comp_any (fx : FxOk cx c env) {elt t iter : Expr} {ifs : List Expr} {scope : Scope} {pos : Pos} {c' : CE} {mt : MTgt} {it : MIter} {m : MExpr} {f : List (Option PV) → PV → (Option PV → Hp → Prop) → Hp → Prop}
    (hc : compCE c scope t = some (c', mt)) (hset : notSet iter = true) (hfit : tgtFits it mt = true) (hI : SndI cx n c env iter it)
    (hm : ∀ σ Q E H, wE cx n σ m Q E H → wIt cx n σ it (fun items dep H₁ => items.length ≤ sizeLine ∧ compW dep (f σ) items [] Q H₁) E H)
    (hturn : ∀ A σ x K H', Room n A → A.handled = none → f σ x K H' → ∃ σ', bindT (σ ++ [none, none]) mt x = some σ' ∧ TurnOk cx A c' ifs elt σ' K H') : SndE cx n c env (.ListComp elt [⟨t, iter, ifs, 0⟩] scope pos) m := by
  intro A σ H s Q E hr hh a hw
  show wpAny _ A (comprehension (.ListComp elt [⟨t, iter, ifs, 0⟩] scope pos) scope env _ (newList []) false (eval iter env)) _ _ s
  refine comp_any fx hr hh a hc hset hfit hI (hm _ _ _ _ hw) (fun x K H' h => hturn A σ x K H' hr hh h) (fun _ _ x => x) fun D C s' H' m acc hD hC hDC hn hHC i st q => ?_
  have hCb : ∀ o, ¬ cx.base C o := fun o h => by have := a.inv.base C o h; rw [hC] at this; cases this
  refine ⟨m, hn, fun h' sb => post_letgo hC hCb hn (by rw [upd_ne _ _ (Ne.symm hDC)]; exact hHC) i st sb (p := .ref D) (by simp [Rep]) q⟩

end
end Mine
end

/-! M9e -/
section
set_option autoImplicit false
set_option linter.all false
namespace Mine
open PySem PyProof.Rows

theorem nn {α : Type} {m : α} {P : Prop} (h : (none : Option α) = some m) : P := by cases h
theorem opt2_some {α β γ : Type} {a : Option α} {b : Option β} {f : α → β → γ} {m : γ} (h : opt2 a b f = some m) : ∃ x y, a = some x ∧ b = some y ∧ f x y = m := by
  cases a with
  | none => exact nn h
  | some x =>
    cases b with
    | none => exact nn h
    | some y => exact ⟨x, y, rfl, rfl, Option.some.inj h⟩
theorem opt3_some {α β γ δ : Type} {a : Option α} {b : Option β} {d : Option γ} {f : α → β → γ → δ} {m : δ} (h : opt3 a b d f = some m) : ∃ x y z, a = some x ∧ b = some y ∧ d = some z ∧ f x y z = m := by
  cases a with
  | none => exact nn h
  | some x =>
    obtain ⟨y, z, h1, h2, h3⟩ := opt2_some (show opt2 b d (f x) = some m from h)
    exact ⟨x, y, z, rfl, h1, h2, h3⟩
theorem guard_some {α : Type} {b : Bool} {x : Option α} {m : α} (h : guardO b x = some m) : b = true ∧ x = some m := by
  cases b with
  | true => exact ⟨rfl, h⟩
  | false => exact nn h
theorem map_some {α β : Type} {a : Option α} {f : α → β} {m : β} (h : a.map f = some m) : ∃ x, a = some x ∧ f x = m := Option.map_eq_some_iff.mp h

section
variable {cx : Cx} {n : Nat}
/-- what is shown of a compiled expression -/
noncomputable def OkE (cx : Cx) (n : Nat) (ev : CE → Expr → Option MExpr) : Prop := ∀ c env e m, FxOk cx c env → ev c e = some m → notStar e = true ∧ SndE cx n c env e m ∧ SndT cx n c env e (eval e env) m
noncomputable def OkEs (cx : Cx) (n : Nat) (evs : CE → List Expr → Option MExprs) : Prop := ∀ c env es ms, FxOk cx c env → evs c es = some ms → SndEs cx n c env es ms ∧ (es = [] → ms = .nil) ∧ ∀ e ∈ es, notStar e = true
noncomputable def OkI (cx : Cx) (n : Nat) (it : CE → Expr → Option MIter) : Prop := ∀ c env e m, FxOk cx c env → it c e = some m → notStar e = true ∧ SndI cx n c env e m
noncomputable def Got (cx : Cx) (n : Nat) (c : CE) (env : Env) (e : Expr) (m : MExpr) : Prop := notStar e = true ∧ SndE cx n c env e m ∧ SndT cx n c env e (eval e env) m

theorem ok_const {c : CE} {env : Env} {k : Const} {a : Nat} {p : Pos} {m : MExpr} (h : cConst k = some m) : Got cx n c env (.Constant k a p) m := by
  cases k with
  | none => cases h; exact ⟨rfl, snd_none, room_any snd_none rfl⟩
  | bool b => cases h; exact ⟨rfl, snd_bool, room_any snd_bool rfl⟩
  | int i => cases h; exact ⟨rfl, snd_int, room_any snd_int rfl⟩
  | str s => cases h; exact ⟨rfl, snd_str, room_any snd_str rfl⟩
  | _ => exact nn h
variable {ev : CE → Expr → Option MExpr} {evs : CE → List Expr → Option MExprs} {it : CE → Expr → Option MIter}
theorem ok_un (ih : OkE cx n ev) {c : CE} {env : Env} (fx : FxOk cx c env) {op : UnaryOp} {x : Expr} {p : Pos} {m : MExpr} (h : cUn op (ev c x) = some m) : Got cx n c env (.UnaryOp op x p) m := by
  cases op with
  | Not =>
    obtain ⟨a, ha, rfl⟩ := map_some h
    have := ih c env x a fx ha
    exact ⟨rfl, snd_not this.2.1, sndT_not this.2.2⟩
  | USub =>
    obtain ⟨a, ha, rfl⟩ := map_some h
    have := ih c env x a fx ha
    exact ⟨rfl, snd_neg this.2.1, room_any (snd_neg this.2.1) rfl⟩
  | _ => exact nn h
theorem ok_cmp (ih : OkE cx n ev) {c : CE} {env : Env} (fx : FxOk cx c env) {l : Expr} {ops : List CmpOp} {rs : List Expr} {p : Pos} {m : MExpr} (h : cCmp (ev c) l ops rs = some m) : Got cx n c env (.Compare l ops rs p) m := by
  match ops, rs with
  | [op], [r] =>
    obtain ⟨hm, h⟩ := guard_some h
    obtain ⟨a, b, ha, hb, rfl⟩ := opt2_some h
    have hm : behindInMarks op r = false := by simpa using hm
    exact ⟨rfl, snd_cmp hm (ih c env l a fx ha).2.1 (ih c env r b fx hb).2.1, sndT_cmp hm (ih c env l a fx ha).2.1 (ih c env r b fx hb).2.1⟩
  | [op, op'], [m', r] =>
    obtain ⟨hm, h⟩ := guard_some h
    obtain ⟨a, b, d, ha, hb, hd, rfl⟩ := opt3_some h
    have hm : lastMarks [op, op'] [m', r] = false := by simpa using hm
    exact ⟨rfl, snd_cmp2 hm (ih c env l a fx ha).2.1 (ih c env m' b fx hb).2.1 (ih c env r d fx hd).2.1, sndT_cmp2 hm (ih c env l a fx ha).2.1 (ih c env m' b fx hb).2.1 (ih c env r d fx hd).2.1⟩
  | [], _ => exact nn h
  | [_], [] => exact nn h
  | [_], _ :: _ :: _ => exact nn h
  | [_, _], [] => exact nn h
  | [_, _], [_] => exact nn h
  | [_, _], _ :: _ :: _ :: _ => exact nn h
  | _ :: _ :: _ :: _, _ => exact nn h
theorem glob_of {c : CE} {x f : Str} (hf : cName cx.globs cx.consts c x = some (.glob f)) : x = f ∧ x ∈ cx.globs := by
  unfold cName at hf
  split at hf
  · cases hf
  split at hf
  · injection hf with hf; cases hf
  split at hf
  · rename_i hb
    simp only [Bool.and_eq_true, List.contains_iff_mem] at hb
    split at hf
    · injection hf with hf; cases hf
    · injection hf with hf; injection hf with hf; exact ⟨hf, hb.2⟩
  · cases hf
theorem ok_call (ok : CxOk cx) (ih : OkE cx n ev) (ihs : OkEs cx n evs) {c : CE} {env : Env} (fx : FxOk cx c env) {f : Expr} {as : List Expr} {kw : List Keyword} {pos : Pos} {m : MExpr} (h : cCall cx.globs cx.consts c (ev c) (evs c) f as kw pos = some m) : Got cx n c env (.Call f as kw pos) m := by
  cases kw with
  | cons _ _ => exact nn h
  | nil =>
    cases f with
    | Attribute o x apos =>
      obtain ⟨hc, h⟩ := guard_some h
      obtain ⟨a, mm, b, ha, hx, hb, rfl⟩ := opt3_some h
      simp only [Bool.and_eq_true, decide_eq_true_eq] at hc
      have hs := ihs c env as b fx hb
      have := snd_meth hx hc.1.1 hc.2 hc.1.2 (ih c env o a fx ha).2.1 hs.1 hs.2.1 hs.2.2
      exact ⟨rfl, this, room_any this rfl⟩
    | Name x p =>
      cases hb : isB cx.globs cx.consts c x "list" with
      | true =>
        have h : cList (ev c) as = some m := by
          have h0 := h
          dsimp only [cCall] at h0
          rw [hb] at h0
          exact h0
        match as, h with
        | [a], h =>
          obtain ⟨m', hm', rfl⟩ := map_some h
          have hi := ih c env a m' fx hm'
          have := snd_listOf (n := n) (p := p) (pos := pos) ok fx hb hi.1 hi.2.1
          exact ⟨rfl, this, room_any this rfl⟩
        | [], h => exact nn h
        | _ :: _ :: _, h => exact nn h
      | false =>
        have h : guardO (decide (as.length < 20)) (cGlob (cName cx.globs cx.consts c x) (evs c as)) = some m := by
          have h0 := h
          dsimp only [cCall] at h0
          rw [hb] at h0
          exact h0
        obtain ⟨_, h⟩ := guard_some h
        cases hf : cName cx.globs cx.consts c x with
        | none => rw [hf] at h; exact nn h
        | some g =>
          rw [hf] at h
          cases g with
          | glob f' =>
            obtain ⟨ms, hms, rfl⟩ := map_some h
            obtain ⟨rfl, hx⟩ := glob_of hf
            have hs := ihs c env as ms fx hms
            have := snd_call (pos := pos) ok hx (snd_name (n := n) (pos := p) ok fx hf) hs.1 hs.2.1 hs.2.2
            exact ⟨rfl, this, room_any this rfl⟩
          | _ => exact nn h
    | _ => exact nn h
theorem ok_sub (ih : OkE cx n ev) {c : CE} {env : Env} (fx : FxOk cx c env) {o i : Expr} {p : Pos} {m : MExpr} (h : cSub (ev c) o i = some m) : Got cx n c env (.Subscript o i p) m := by
  have plain : isSlice i = false → guardO (!isSlice i) (opt2 (ev c o) (ev c i) .sub) = some m → Got cx n c env (.Subscript o i p) m := fun hs h => by
    obtain ⟨_, h⟩ := guard_some h
    obtain ⟨a, b, ha, hb, rfl⟩ := opt2_some h
    have := snd_sub (pos := p) hs (ih c env o a fx ha).2.1 (ih c env i b fx hb).2.1
    exact ⟨rfl, this, room_any this rfl⟩
  cases i with
  | Slice lo hi st p' =>
    match lo, hi, st with
    | none, some i, none =>
      obtain ⟨a, b, ha, hb, rfl⟩ := opt2_some h
      have := snd_slTo (pos := p) (pos' := p') (ih c env o a fx ha).2.1 (ih c env i b fx hb).2.1
      exact ⟨rfl, this, room_any this rfl⟩
    | some i, none, none =>
      obtain ⟨a, b, ha, hb, rfl⟩ := opt2_some h
      have := snd_slFrom (pos := p) (pos' := p') (ih c env o a fx ha).2.1 (ih c env i b fx hb).2.1
      exact ⟨rfl, this, room_any this rfl⟩
    | none, none, none => exact nn h
    | some _, some _, none => exact nn h
    | _, _, some _ => exact nn h
  | _ => exact plain rfl h
theorem ok_dict (ih : OkE cx n ev) {c : CE} {env : Env} (fx : FxOk cx c env) {ks : List (Option Expr)} {vs : List Expr} {p : Pos} {m : MExpr} (h : cDict (ev c) ks vs = some m) : Got cx n c env (.Dict ks vs p) m := by
  match ks, vs with
  | [], [] => cases h; exact ⟨rfl, snd_dict0, room_any snd_dict0 rfl⟩
  | [some k], [v] =>
    obtain ⟨a, b, ha, hb, rfl⟩ := opt2_some h
    have := snd_dict1 (pos := p) (ih c env k a fx ha).2.1 (ih c env v b fx hb).2.1
    exact ⟨rfl, this, room_any this rfl⟩
  | [], _ :: _ => exact nn h
  | [none], _ => exact nn h
  | [some _], [] => exact nn h
  | [some _], _ :: _ :: _ => exact nn h
  | _ :: _ :: _, _ => exact nn h
/-- a comprehension's pieces -/
theorem comp_parts {c : CE} {elt : Expr} {gens : List Comprehension} {scope : Scope} {m : MExpr} (h : cComp c (it c) ev elt gens scope = some m) :
    ∃ t iter ifs c' mt i, gens = [⟨t, iter, ifs, 0⟩] ∧ compCE c scope t = some (c', mt) ∧ it c iter = some i ∧ tgtFits i mt = true ∧ notSet iter = true ∧ cGen mt i (ev c') elt ifs = some m := by
  match gens, h with
  | [], h => exact nn h
  | ⟨_, _, _, _⟩ :: _ :: _, h => exact nn h
  | [⟨t, iter, ifs, k⟩], h =>
    obtain ⟨hk, h2⟩ := guard_some h
    have hk : k = 0 := by simpa using hk
    subst hk
    clear h
    cases hc : compCE c scope t with
    | none => rw [hc] at h2; exact nn h2
    | some x =>
      obtain ⟨c', mt⟩ := x
      rw [hc] at h2
      cases hi : it c iter with
      | none => rw [hi] at h2; exact nn h2
      | some i =>
        rw [hi] at h2
        obtain ⟨hf, h2⟩ := guard_some h2
        simp only [Bool.and_eq_true] at hf
        exact ⟨t, iter, ifs, c', mt, i, rfl, hc, hi, hf.1, hf.2, h2⟩
theorem ok_comp (ih : OkE cx n ev) (ihI : OkI cx n it) {c : CE} {env : Env} (fx : FxOk cx c env) {elt : Expr} {gens : List Comprehension} {scope : Scope} {p : Pos} {m : MExpr} (h : cComp c (it c) ev elt gens scope = some m) : Got cx n c env (.ListComp elt gens scope p) m := by
  obtain ⟨t, iter, ifs, c', mt, i, rfl, hc, hi, hf1, hf2, h⟩ := comp_parts h
  have hI := (ihI c env iter i fx hi).2
  match ifs with
  | [] =>
    obtain ⟨a, ha, rfl⟩ := map_some h
    have := snd_comp_any (n := n) (pos := p) (elt := elt) (ifs := []) (m := .comp mt i a) (f := fun σ x K H₂ => ∃ σ', bindT (σ ++ [none, none]) mt x = some σ' ∧ wE cx n σ' a (fun p H₃ => K (some p) H₃) noE H₂) fx hc hf2 hf1 hI
      (fun σ Q E H hw => hw) (fun A σ x K H' hr hh hf => by
        obtain ⟨σ', hb, hw⟩ := hf
        exact ⟨σ', hb, turn_plain hr hh (fun cenv fx' => (ih c' cenv elt a fx' ha).2.1) hw⟩)
    exact ⟨rfl, this, room_any this rfl⟩
  | [cnd] =>
    obtain ⟨q, a, hq, ha, rfl⟩ := opt2_some h
    have := snd_comp_any (n := n) (pos := p) (elt := elt) (ifs := [cnd]) (m := .compIf mt i q a) (f := fun σ x K H₂ => ∃ σ', bindT (σ ++ [none, none]) mt x = some σ' ∧ wE cx n σ' q (fun v H₃ => asB v fun x => if x = true then wE cx n σ' a (fun p H₄ => K (some p) H₄) noE H₃ else K none H₃) noE H₂) fx hc hf2 hf1 hI
      (fun σ Q E H hw => hw) (fun A σ x K H' hr hh hf => by
        obtain ⟨σ', hb, hw⟩ := hf
        exact ⟨σ', hb, turn_if hr hh (fun cenv fx' => (ih c' cenv cnd q fx' hq).2.2) (fun cenv fx' => (ih c' cenv elt a fx' ha).2.1) hw⟩)
    exact ⟨rfl, this, room_any this rfl⟩
  | _ :: _ :: _ => exact nn h
theorem ok_iter (ok : CxOk cx) (ih : OkE cx n ev) {c : CE} {env : Env} (fx : FxOk cx c env) {e : Expr} {m : MIter} (h : cIter cx.globs cx.consts c (ev c) e = some m) : notStar e = true ∧ SndI cx n c env e m := by
  have ex : (ev c e).map .ex = some m → notStar e = true ∧ SndI cx n c env e m := fun h => by
    obtain ⟨b, hb, rfl⟩ := map_some h
    have := ih c env e b fx hb
    exact ⟨this.1, sndI_ex ok this.2.1⟩
  cases e with
  | Call f as kw p =>
    cases f with
    | Name x p' =>
      match as, kw with
      | [a], [] =>
        cases h1 : isB cx.globs cx.consts c x "enumerate" with
        | true =>
          dsimp only [cIter] at h
          rw [h1] at h
          obtain ⟨b, hb, rfl⟩ := map_some h
          have := ih c env a b fx hb
          exact ⟨rfl, sndI_enum ok fx h1 this.1 this.2.1⟩
        | false =>
          cases h2 : isB cx.globs cx.consts c x "range" with
          | true =>
            dsimp only [cIter] at h
            rw [h1, h2] at h
            obtain ⟨b, hb, rfl⟩ := map_some h
            have := ih c env a b fx hb
            exact ⟨rfl, sndI_rng ok fx h2 this.1 this.2.1⟩
          | false =>
            dsimp only [cIter] at h
            rw [h1, h2] at h
            exact ex h
      | [], _ => exact ex h
      | [_], _ :: _ => exact ex h
      | _ :: _ :: _, _ => exact ex h
    | _ => exact ex h
  | _ => exact ex h

theorem sound_all (ok : CxOk cx) (n : Nat) : ∀ f : Nat, OkE cx n (cE cx.globs cx.consts f) ∧
    (∀ c env op es m pos whole, FxOk cx c env → cB cx.globs cx.consts f c op es = some m → SndE cx n c env (.BoolOp op es pos) m ∧ SndT cx n c env (.BoolOp op es pos) whole m) ∧
    OkEs cx n (cEs cx.globs cx.consts f) ∧ OkI cx n (cIt cx.globs cx.consts f)
  | 0 => ⟨fun _ _ _ _ _ h => nn h, fun _ _ _ _ _ _ _ _ h => nn h, fun _ _ _ _ _ h => nn h, fun _ _ _ _ _ h => nn h⟩
  | f + 1 => by
    obtain ⟨ihE, ihB, ihEs, ihI⟩ := sound_all ok n f
    refine ⟨fun c env e m fx h => ?_, fun c env op es m pos whole fx h => ?_, fun c env es ms fx h => ?_, fun c env e m fx h => ok_iter ok ihE fx h⟩
    · cases e with
      | Constant k a p => exact ok_const h
      | Name x p => exact ⟨rfl, snd_name ok fx h, room_any (snd_name ok fx h) rfl⟩
      | BoolOp op vs p =>
        have := ihB c env op vs m p (eval (.BoolOp op vs p) env) fx h
        exact ⟨rfl, this.1, this.2⟩
      | UnaryOp op x p => exact ok_un ihE fx h
      | BinOp l op r p =>
        obtain ⟨a, b, ha, hb, rfl⟩ := opt2_some h
        have := snd_bin (op := op) (pos := p) (ihE c env l a fx ha).2.1 (ihE c env r b fx hb).2.1
        exact ⟨rfl, this, room_any this rfl⟩
      | Compare l ops rs p => exact ok_cmp ihE fx h
      | Call g as kw pos => exact ok_call ok ihE ihEs fx h
      | Subscript o i p => exact ok_sub ihE fx h
      | List es p =>
        obtain ⟨a, ha, rfl⟩ := map_some h
        have := snd_list (pos := p) (ihEs c env es a fx ha).1
        exact ⟨rfl, this, room_any this rfl⟩
      | Tuple es k p =>
        obtain ⟨a, ha, rfl⟩ := map_some h
        have := snd_tup (k := k) (pos := p) (ihEs c env es a fx ha).1
        exact ⟨rfl, this, room_any this rfl⟩
      | Dict kk vv p => exact ok_dict ihE fx h
      | ListComp elt gens scope p => exact ok_comp ihE ihI fx h
      | _ => exact nn h
    · match es with
      | [] => exact nn h
      | [e] =>
        have := ihE c env e m fx h
        exact ⟨snd_bool_one this.2.1, sndT_bool_one this.2.2⟩
      | e :: e₂ :: rest =>
        obtain ⟨a, b, ha, hb, rfl⟩ := opt2_some h
        have h1 := ihE c env e a fx ha
        have h2 := ihB c env op (e₂ :: rest) b pos whole fx hb
        cases op with
        | And => exact ⟨snd_and h1.2.1 h2.1, sndT_and h1.2.2 h2.2⟩
        | Or => exact ⟨snd_or h1.2.1 h2.1, sndT_or h1.2.2 h2.2⟩
    · match es with
      | [] =>
        cases h
        exact ⟨snd_nil, fun _ => rfl, by simp⟩
      | e :: es =>
        obtain ⟨_, h⟩ := guard_some h
        obtain ⟨a, b, ha, hb, rfl⟩ := opt2_some h
        have h1 := ihE c env e a fx ha
        have h2 := ihEs c env es b fx hb
        exact ⟨snd_cons h1.1 h1.2.1 h2.1, (fun h => by cases h), fun x hx => by
          rcases List.mem_cons.mp hx with rfl | hx
          · exact h1.1
          · exact h2.2.2 x hx⟩
end
end Mine
end

/-! M9f -/
section
set_option autoImplicit false
set_option linter.all false
namespace Mine
open PySem PyProof.Rows

noncomputable def FlRep (cx : Cx) (h : Heap) : Flow → Fl → Prop
  | .next, .next => True
  | .ret v, .ret p => Rep cx h v p
  | _, _ => False
noncomputable def SPost (cx : Cx) (c : CE) (env : Env) (s : Shared) (H : Hp) (Q : Fl → List (Option PV) → Hp → Prop) : Flow → Shared → Prop := fun fl s' => ∃ fl' σ' H', FlRep cx s'.heap fl fl' ∧ At cx c env σ' H' s' ∧ Step (Fset env) s H s' H' ∧ Q fl' σ' H'
noncomputable def SEPost (cx : Cx) (c : CE) (env : Env) (s : Shared) (H : Hp) (E : Addr → List (Option PV) → Hp → Prop) : Value → Shared → Prop := fun x s' => ∃ a σ' H', x = .ref a ∧ At cx c env σ' H' s' ∧ Step (Fset env) s H s' H' ∧ E a σ' H'

section
variable (cx : Cx) (n : Nat) (c : CE) (env : Env)
noncomputable def SndS (st : Stmt) (m : MStmt) : Prop := ∀ (A : Around) (σ : List (Option PV)) (H : Hp) (s : Shared) (Q : Fl → List (Option PV) → Hp → Prop) (E : Addr → List (Option PV) → Hp → Prop), Room n A → A.handled = none → At cx c env σ H s → wS cx n m Q E σ H →
  wpAny (model cx.prog cx.w) A (exec st env) (SPost cx c env s H Q) (SEPost cx c env s H E) s
noncomputable def SndSs (st : List Stmt) (m : MStmts) : Prop := ∀ (A : Around) (σ : List (Option PV)) (H : Hp) (s : Shared) (Q : Fl → List (Option PV) → Hp → Prop) (E : Addr → List (Option PV) → Hp → Prop), Room n A → A.handled = none → At cx c env σ H s → wSs cx n m Q E σ H →
  wpAny (model cx.prog cx.w) A (execs st env) (SPost cx c env s H Q) (SEPost cx c env s H E) s
end

section
variable {cx : Cx} {n : Nat} {c : CE} {env : Env} {A : Around} {σ : List (Option PV)} {H H' H₀ : Hp} {s s' s₀ : Shared}

theorem spost_step {s₁ : Shared} {H₁ : Hp} {Q : Fl → List (Option PV) → Hp → Prop} (st : Step (Fset env) s H s₁ H₁) (v : Flow) (s' : Shared) (x : SPost cx c env s₁ H₁ Q v s') : SPost cx c env s H Q v s' := by
  obtain ⟨fl, σ', H', r, a, st', q⟩ := x; exact ⟨fl, σ', H', r, a, st.trans st', q⟩
theorem sepost_step {s₁ : Shared} {H₁ : Hp} {E : Addr → List (Option PV) → Hp → Prop} (st : Step (Fset env) s H s₁ H₁) (v : Value) (s' : Shared) (x : SEPost cx c env s₁ H₁ E v s') : SEPost cx c env s H E v s' := by
  obtain ⟨fl, σ', H', r, a, st', q⟩ := x; exact ⟨fl, σ', H', r, a, st.trans st', q⟩
theorem se_of_e {E : Addr → List (Option PV) → Hp → Prop} (a : At cx c env σ H s) (v : Value) (s' : Shared) (x : EPost cx s H (fun x H => E x σ H) v s') : SEPost cx c env s H E v s' := by
  obtain ⟨b, H', r, i, st, q⟩ := x; exact ⟨b, σ, H', r, a.step st i, st.up, q⟩
theorem no_e (P : Prop) {v : Value} {s' : Shared} (x : EPost cx s H noE v s') : P := by obtain ⟨_, _, _, _, _, h⟩ := x; exact h.elim
theorem no_se (P : Prop) {v : Value} {s' : Shared} (x : SEPost cx c env s H noE' v s') : P := by obtain ⟨_, _, _, _, _, _, h⟩ := x; exact h.elim

theorem At.side {X : Addr → Prop} (a : At cx c env σ H s) (k : KeepBut X s.heap s'.heap) (hX : ∀ b, X b → ¬ Fset env b) (hH : ∀ b, X b → H b = none) (hb : ∀ b o, X b → ¬ cx.base b o) (nt : NoTup s.heap X) : At cx c env σ H s' :=
  ⟨a.inv.side k hH hb nt, a.fr.keep (fun b o hb e => k b o (fun h => hX b h hb) e) (tup_keep nt k), a.apart, a.nbase, a.len⟩
theorem Step.sideF {F X : Addr → Prop} (st : Step F s₀ H₀ s H) (hs : Same s s') (k : KeepBut X s.heap s'.heap) (hX : ∀ a, X a → s₀.heap.get? a = none) : Step F s₀ H₀ s' H :=
  ⟨st.same.trans hs, fun b o hb e => k b o (fun h => by rw [hX b h] at e; cases e) (st.keep b o hb e), st.grow, fun a ha => by
    have h1 := st.live a ha
    cases e : s.heap.get? a with
    | none => exact absurd e h1
    | some o => rw [k a o (fun h => ha (hX a h)) e]; simp⟩

noncomputable def isComp : Expr → Bool
  | .ListComp .. => true
  | .SetComp .. => true
  | .DictComp .. => true
  | _ => false
theorem swaps_plain {e : Expr} {t : Option Expr} {l : Nat} (h : isComp e = false) : swapsWith e t l env = pure false := by
  cases e <;> first | rfl | (simp [isComp] at h)
theorem swaps_tup {e : Expr} {es : List Expr} {k : Nat} {p : Pos} {l : Nat} : swapsWith e (some (.Tuple es k p)) l env = pure false := by
  cases e <;> rfl
theorem swapped_name {x : Str} {p : Pos} {e : Expr} : swappedStores [.Name x p] e env = pure none := by
  cases e <;> rfl
theorem swapped_tup {es : List Expr} {k : Nat} {p : Pos} {e : Expr} (h : notTuple e = true) : swappedStores [.Tuple es k p] e env = pure none := by
  cases e <;> first | rfl | (simp [notTuple] at h; done)
noncomputable def notStarT : Expr → Bool
  | .Starred .. => false
  | _ => true
theorem assignEach_one {t : Expr} (h : notStarT t = true) (v : Value) : assignAll v ((assignEach [t] env).map (·.2)) = assign t env v := by
  cases t <;> first | rfl | (simp [notStarT] at h)

/-- an assignment, when nothing is exchanged -/
theorem asg_plain {t e : Expr} {pos : Pos} {Q : Flow → Shared → Prop} {E : Value → Shared → Prop} (h : wpAny (model cx.prog cx.w) A (eval e env) (fun v s₁ => wpAny (model cx.prog cx.w) A (assign t env v) (fun _ => Q .next) E s₁) E s)
    (hs : swapsWith e (some t) pos.line env = pure false) (hw : swappedStores [t] e env = pure none) (ht : notStarT t = true) : wpAny (model cx.prog cx.w) A (exec (.Assign [t] e pos) env) Q E s :=
  wpAny_Assign_stores (wpAny_mono h (fun v s₁ h₁ => by rw [assignEach_one ht]; exact h₁) fun _ _ x => x) hs hw

theorem snd_tgt {t e : Expr} {mt : MTgt} {m : MExpr} {pos : Pos} (fx : FxOk cx c env) (ht : Tgt c t mt) (hs : swapsWith e (some t) pos.line env = pure false) (hw : swappedStores [t] e env = pure none) (h : SndE cx n c env e m) : SndS cx n c env (.Assign [t] e pos) (.asg mt m) := by
  intro A σ H s Q E hr hh a hw'
  simp only [wS_expr, wS_asg, wS_ret, wS_ite, wS_for] at hw'
  refine asg_plain (h.go hr hh a hw' (fun v p s₁ H₁ r i st a₁ q => ?_) (se_of_e a)) hs hw (by cases ht <;> rfl)
  obtain ⟨σ', hb, q⟩ := q
  refine assign_tgt (F := Fset env) fx a₁ hh ht r hb (fun _ _ _ _ ad h _ => h) fun s' a' st' => ?_
  exact ⟨.next, σ', H₁, trivial, a', st.up.trans st', q⟩

/-- a list that is made and stored at once -/
theorem comp_use (ok : CxOk cx) (fx : FxOk cx c env) {f : Nat} {elt : Expr} {gens : List Comprehension} {scope : Scope} {pos pos' : Pos} {m : MExpr} (hc : cE cx.globs cx.consts (f + 1) c (.ListComp elt gens scope pos) = some m)
    {use : Option (Value → Sem Unit)} {R : Value → Shared → Prop} {E' : Value → Shared → Prop} {Q : PV → Hp → Prop} {E : Addr → Hp → Prop}
    (hr : Room n A) (hh : A.handled = none) (a : At cx c env σ H s) (hw : wE cx n σ m Q E H) (he : ∀ x s', EPost cx s H E x s' → E' x s')
    (hR : ∀ D C s' H' m acc, s.heap.get? D = none → s.heap.get? C = none → D ≠ C → s'.heap.Ns C m → H' C = none → Inv cx (upd H' D (.list acc)) s' → Step noF s H s' (upd H' D (.list acc)) → Q (.ref D) (upd H' D (.list acc)) →
      compPost (model cx.prog cx.w) A E' use R (.ref D) C (.ok .next) s') :
    wpAny (model cx.prog cx.w) A (comprehension (.ListComp elt gens scope pos) scope env pos' (newList []) (firstAsync gens) (firstIter gens env) use) R E' s := by
  obtain ⟨ihE, _, _, ihI⟩ := sound_all ok n f
  obtain ⟨t, iter, ifs, c', mt, it, rfl, hcc, hi, hf1, hf2, hg⟩ := comp_parts hc
  have hI := (ihI c env _ it fx hi).2
  match ifs, hg with
  | [], hg =>
    obtain ⟨b, hb, rfl⟩ := map_some hg
    exact comp_any fx hr hh a hcc hf2 hf1 hI hw (fun x K H' hf => by
      obtain ⟨σ', hb', hw⟩ := hf
      exact ⟨σ', hb', turn_plain hr hh (fun cenv fx' => (ihE c' cenv _ b fx' hb).2.1) hw⟩) he hR
  | [cnd], hg =>
    obtain ⟨q, b, hq, hb, rfl⟩ := opt2_some hg
    exact comp_any fx hr hh a hcc hf2 hf1 hI hw (fun x K H' hf => by
      obtain ⟨σ', hb', hw⟩ := hf
      exact ⟨σ', hb', turn_if hr hh (fun cenv fx' => (ihE c' cenv _ q fx' hq).2.2) (fun cenv fx' => (ihE c' cenv _ b fx' hb).2.1) hw⟩) he hR
  | _ :: _ :: _, hg => exact nn hg
end
end Mine
end

/-! M9g -/
section
set_option autoImplicit false
set_option linter.all false
namespace Mine
open PySem PyProof.Rows

section
variable {cx : Cx} {n : Nat} {c : CE} {env : Env}

theorem snd_name_asg (ok : CxOk cx) (fx : FxOk cx c env) {f : Nat} {x : Str} {px pos : Pos} {e : Expr} {i : Nat} {m : MExpr} (hx : c.tab.lookup x = some i) (hm : cE cx.globs cx.consts f c e = some m) : SndS cx n c env (.Assign [.Name x px] e pos) (.asg (.var i) m) := by
  have hE := ((sound_all ok n f).1 c env e m fx hm).2.1
  have plain : swapsWith e (some (.Name x px)) pos.line env = pure false → SndS cx n c env (.Assign [.Name x px] e pos) (.asg (.var i) m) := fun h =>
    snd_tgt fx (.var hx) h swapped_name hE
  cases hc : isComp e with
  | false => exact plain (swaps_plain hc)
  | true =>
    cases e <;> first | (simp [isComp] at hc; done) | skip
    case SetComp => cases f <;> exact nn hm
    case DictComp => cases f <;> exact nn hm
    case ListComp elt gens scope p =>
      cases hb : (env.blockKind == .function && env.kindOf x == some .local && px.line == p.line && !(scope.names.any fun (n, k) => n == x && (k == .local || k == .cell))) with
      | false => exact plain (show (pure _ : Sem Bool) = pure false from congrArg pure hb)
      | true =>
        have hs : swapsWith (.ListComp elt gens scope p) (some (.Name x px)) pos.line env = pure true := show (pure _ : Sem Bool) = pure true from congrArg pure hb
        intro A σ H s Q E hr hh a hw
        simp only [wS_expr, wS_asg, wS_ret, wS_ite, wS_for] at hw
        rw [exec_Assign_Name_used x px _ pos hs]
        refine wpAny_bind (wpAny_standAt (wpAny_bind ?_))
        show wpAny _ A (comprehension (.ListComp elt gens scope p) scope env (firstIterPos gens p) (newList []) (firstAsync gens) (firstIter gens env) (some (assign (.Name x px) env)) >>= fun _ => pure ()) _ _ s
        refine wpAny_bind ?_
        cases f with
        | zero => exact nn hm
        | succ f =>
        refine comp_use ok fx hm hr hh a hw (se_of_e a) fun D C s' H' mm acc hD hC hDC hn hHC i' st q => ?_
        obtain ⟨σ', hbd, q⟩ := q
        have hCb : ∀ o, ¬ cx.base C o := fun o h => by have := a.inv.base C o h; rw [hC] at this; cases this
        have a' := a.step st i'
        refine assign_tgt (F := Fset env) fx a' hh (.var hx) (p := .ref D) (by simp [Rep]) hbd (fun _ _ _ _ ad h _ => h) fun s'' a'' st' => ?_
        have hCF : ¬ Fset env C := fun h => a.fr.live h hC
        have hC' : upd H' D (.list acc) C = none := by rw [upd_ne _ _ (Ne.symm hDC)]; exact hHC
        have hn'' : s''.heap.Ns C mm := by
          obtain ⟨o, es, ep, ho, r⟩ := hn
          exact ⟨o, es, ep, st'.keep C _ (fun h => h.elim (fun h => h hC') hCF) ho, r⟩
        refine ⟨mm, hn'', fun h' sb => wpAny_pure (wpAny_pure ?_)⟩
        have kp := keep_same sb
        have nt : NoTup s''.heap (fun b => b = C) := by
          intro b hb vs k e
          subst hb
          obtain ⟨o, es, ep, ho, hd, _⟩ := hn''
          rw [e] at ho; injection ho with ho; subst ho; simp at hd
        exact ⟨.next, σ', _, trivial, a''.side (s' := { s'' with heap := h' }) kp (fun b e => by subst e; exact hCF) (fun b e => by subst e; exact hC') (fun b o e => by subst e; exact hCb o) nt,
          (st.up.trans st').sideF (same_heap _ _) kp (fun b e => by subst e; exact hC), q⟩

theorem snd_expr {e : Expr} {m : MExpr} {pos : Pos} (fx : FxOk cx c env) (hx : exprOk e = true) (h : SndE cx n c env e m) : SndS cx n c env (.Expr e pos) (.expr m) := by
  intro A σ H s Q E hr hh a hw
  simp only [wS_expr, wS_asg, wS_ret, wS_ite, wS_for] at hw
  have hi : interactive env = false := by unfold interactive; rw [fx.kind]; rfl
  rw [exec_Expr env e pos hi (swaps_plain (by cases e <;> first | rfl | (simp [exprOk] at hx)))]
  refine wpAny_bind (wpAny_standAt (wpAny_bind (h.go hr hh a hw (fun v p s₁ H₁ r i st a₁ q => wpAny_dropValue ⟨.next, σ, H₁, trivial, a₁, st.up, q⟩) (se_of_e a))))

theorem snd_ret {e : Expr} {m : MExpr} {pos : Pos} (h : SndE cx n c env e m) : SndS cx n c env (.Return (some e) pos) (.ret m) := by
  intro A σ H s Q E hr hh a hw
  simp only [wS_expr, wS_asg, wS_ret, wS_ite, wS_for] at hw
  exact wpAny_Return_some (h.go hr hh a hw (fun v p s₁ H₁ r i st a₁ q => ⟨.ret p, σ, H₁, r, a₁, st.up, q⟩) (se_of_e a))

theorem snd_ite {t : Expr} {b o : List Stmt} {mt : MExpr} {mb mo : MStmts} {pos : Pos} (ht : SndT cx n c env t (eval t env) mt) (hb : SndSs cx n c env b mb) (ho : SndSs cx n c env o mo) : SndS cx n c env (.If t b o pos) (.ite mt mb mo) := by
  intro A σ H s Q E hr hh a hw
  simp only [wS_expr, wS_asg, wS_ret, wS_ite, wS_for] at hw
  refine wpAny_If (ht.go hr hh a (K₁ := fun b H₁ => if b then wSs cx n mb Q E σ H₁ else wSs cx n mo Q E σ H₁) hw (fun b s₁ H₁ i1 st1 a1 q1 => ?_) (se_of_e a))
  cases b with
  | true => exact wpAny_mono (hb A σ H₁ s₁ Q E hr hh a1 q1) (spost_step st1.up) (sepost_step st1.up)
  | false => exact wpAny_mono (ho A σ H₁ s₁ Q E hr hh a1 q1) (spost_step st1.up) (sepost_step st1.up)

theorem snd_for (fx : FxOk cx c env) {t iter : Expr} {b : List Stmt} {mt : MTgt} {it : MIter} {mb : MStmts} {pos : Pos} (ht : Tgt c t mt) (hset : notSet iter = true) (hfit : tgtFits it mt = true) (hI : SndI cx n c env iter it) (hb : SndSs cx n c env b mb) :
    SndS cx n c env (.For t iter b [] pos) (.for mt it mb) := by
  intro A σ H s Q E hr hh a hw
  simp only [wS_expr, wS_asg, wS_ret, wS_ite, wS_for] at hw
  have htup : ∀ i j, mt = .two i j → isTupleT t := fun i j e => by rw [e] at ht; cases ht; trivial
  refine wpAny_For (wpAny_mono (hI t A σ H s _ _ hr hh a (fun x e => ?_) hw) (fun x s₁ h₁ => wpAny_mono h₁ (fun it' s₂ h₂ => ?_) (se_of_e a)) (se_of_e a)) fun x => folded_plain hset
  · subst e
    cases mt with
    | var i => simp [tgtFits] at hfit
    | two i j => exact htup i j rfl
  obtain ⟨I, items, dep, tok, wr, St, Mid, H₂, rfl, W, hst, i₂, st₂, hw1, hw2, htok, hfw⟩ := h₂
  have wF : ∀ b, wr b → ¬ Fset env b := fun b hb hF => a.fr.live hF (hw1 b hb)
  have wB : ∀ b o, wr b → ¬ cx.base b o := fun b o hb h => by have := a.inv.base b o h; rw [hw1 b hb] at this; cases this
  refine codeAny_forLoop_any (fun k' s' => ∃ k σ' H', k' = items.length + 1 - k ∧ k ≤ items.length ∧ At cx c env σ' H' s' ∧ Step (Fset env) s H s' H' ∧ St k s'.heap ∧ (∀ a, wr a → H' a = none) ∧
      forW dep (fun σ x => bindT σ mt x) (fun K σ H => wSs cx n mb K noE' σ H) Q (items.drop k) σ' H') ?_ (items.length + 1) ⟨0, σ, H₂, rfl, Nat.zero_le _, a.step st₂ i₂, st₂.up, hst, hw2, by simpa using hfw⟩
  rintro k' s' ⟨k, σ', H', rfl, hk, a', st', hS, hHw, hf⟩
  rcases Nat.lt_or_ge k items.length with hlt | hge
  · rw [List.drop_eq_getElem_cons hlt] at hf
    simp only [forW] at hf
    obtain ⟨hdep, σ₁, hbd, hbody⟩ := hf
    refine W.item hh hS a'.inv hdep hHw (List.getElem?_eq_getElem hlt) fun v s₁ sm₁ kp₁ hM rv => ?_
    have nt₁ := W.noTup k _ hS
    have a₁ := a'.side kp₁ wF hHw wB nt₁
    have st₁ := st'.sideF sm₁ kp₁ hw1
    refine W.lot (htok t rfl) hM fun s₂' sm₂ kp₂ hS₂ => ?_
    have nt₂ := W.midTup _ _ _ hM
    have a₂ := a₁.side kp₂ wF hHw wB nt₂
    have st₂' := st₁.sideF sm₂ kp₂ hw1
    refine assign_tgt (F := Fset env) fx a₂ hh ht (rep_keep (tup_keep nt₂ kp₂) _ rv) hbd (fun _ _ _ _ ad h _ => h) fun s₃ a₃ st₃ => ?_
    refine wpAny_mono (hb A σ₁ H' s₃ _ _ hr hh a₃ hbody) (fun fl s₄ h₄ => ?_) fun _ _ x => no_se _ x
    obtain ⟨fl', σ₄, H₄, r, a₄, st₄, q₄⟩ := h₄
    have st34 := st₃.trans st₄
    have st4' := st₂'.trans st34
    have kw : ∀ b o, wr b → s₂'.heap.get? b = some o → s₄.heap.get? b = some o := fun b o hb e => st34.keep b o (fun h => h.elim (fun h => h (hHw b hb)) (wF b hb)) e
    have tp := st34.tups a₂.inv a₂.fr.noTup
    cases fl <;> cases fl' <;> simp only [FlRep] at r
    · refine ⟨items.length + 1 - (k + 1), by omega, k + 1, σ₄, H₄, rfl, hlt, a₄, st4', W.frame _ _ _ hS₂ kw tp, fun b hb => ?_, q₄⟩
      cases e : H₄ b with
      | none => rfl
      | some o =>
        rcases st34.grow b (by rw [e]; simp) with h | h
        · exact absurd (hHw b hb) h
        · exact absurd h (W.live _ _ b hS₂ hb)
    · exact ⟨.ret _, σ₄, H₄, r, a₄, st4', q₄⟩
  · rw [List.drop_of_length_le hge] at hf
    simp only [forW] at hf
    refine W.done hh hS a'.inv hf.1 hHw (by simp; omega) hk fun s₁ sm₁ kp₁ => ?_
    have nt₁ := W.noTup k _ hS
    exact wpAny_execs_nil ⟨.next, σ', H', trivial, a'.side kp₁ wF hHw wB nt₁, st'.sideF sm₁ kp₁ hw1, hf.2⟩

theorem snd_snil : SndSs cx n c env [] .nil := fun A σ H s Q E hr hh a hw => wpAny_execs_nil ⟨.next, σ, H, trivial, a, .refl _ _, by simpa only [wSs_nil, wSs_cons] using hw⟩
theorem snd_scons {st : Stmt} {ss : List Stmt} {m : MStmt} {ms : MStmts} (h : SndS cx n c env st m) (h' : SndSs cx n c env ss ms) : SndSs cx n c env (st :: ss) (.cons m ms) := by
  intro A σ H s Q E hr hh a hw
  simp only [wSs_nil, wSs_cons] at hw
  refine wpAny_execs_cons (wpAny_mono (h A σ H s _ _ hr hh a hw) (fun fl s₁ h₁ => ?_) fun _ _ x => x)
  obtain ⟨fl', σ₁, H₁, r, a₁, st₁, q⟩ := h₁
  cases fl <;> cases fl' <;> simp only [FlRep] at r
  · exact wpAny_mono (h' A σ₁ H₁ s₁ Q E hr hh a₁ q) (spost_step st₁) (sepost_step st₁)
  · exact ⟨.ret _, σ₁, H₁, r, a₁, st₁, q⟩

/-- what is shown of a compiled statement -/
noncomputable def OkS (cx : Cx) (n : Nat) (f : Nat) : Prop := ∀ c env st m, FxOk cx c env → cS cx.globs cx.consts f c st = some m → SndS cx n c env st m
theorem ok_asg (ok : CxOk cx) (fx : FxOk cx c env) {f : Nat} {ts : List Expr} {e : Expr} {p : Pos} {m : MStmt} (h : cAsg c (cE cx.globs cx.consts f c) ts e = some m) : SndS cx n c env (.Assign ts e p) m := by
  match ts, h with
  | [], h => exact nn h
  | _ :: _ :: _, h => exact nn h
  | [t], h =>
    cases t with
    | Name x px =>
      obtain ⟨i, a, hi, ha, rfl⟩ := opt2_some h
      exact snd_name_asg ok fx hi ha
    | Tuple es k px =>
      obtain ⟨hnt, h⟩ := guard_some h
      obtain ⟨t, a, ht, ha, rfl⟩ := opt2_some h
      exact snd_tgt fx (tgt_of ht) swaps_tup (swapped_tup hnt) ((sound_all ok n f).1 c env e a fx ha).2.1
    | _ => exact nn h
theorem ok_for (fx : FxOk cx c env) {t iter : Expr} {it : Option MIter} {b : List Stmt} {mb : Option MStmts} {o : List Stmt} {p : Pos} {m : MStmt} (hI : ∀ i, it = some i → SndI cx n c env iter i) (hb : ∀ ms, mb = some ms → SndSs cx n c env b ms) (h : cFor c t iter it mb o = some m) : SndS cx n c env (.For t iter b o p) m := by
  cases o with
  | cons _ _ => exact nn h
  | nil =>
    unfold cFor at h
    cases ht : cTgt2 c t with
    | none => rw [ht] at h; exact nn h
    | some mt =>
      rw [ht] at h
      cases it with
      | none => exact nn h
      | some i =>
        obtain ⟨hf, h⟩ := guard_some h
        simp only [Bool.and_eq_true] at hf
        obtain ⟨ms, hms, rfl⟩ := map_some h
        exact snd_for fx (tgt_of ht) hf.2 hf.1 (hI i rfl) (hb ms hms)
theorem sound_stmts (ok : CxOk cx) (n : Nat) : ∀ f : Nat, OkS cx n f ∧ ∀ c env ss ms, FxOk cx c env → cSs cx.globs cx.consts f c ss = some ms → SndSs cx n c env ss ms
  | 0 => ⟨fun _ _ _ _ _ h => nn h, fun _ _ _ _ _ h => nn h⟩
  | f + 1 => by
    obtain ⟨ihS, ihSs⟩ := sound_stmts ok n f
    obtain ⟨ihE, _, _, ihI⟩ := sound_all ok n f
    refine ⟨fun c env st m fx h => ?_, fun c env ss ms fx h => ?_⟩
    · cases st with
      | Expr e p =>
        obtain ⟨hx, h⟩ := guard_some h
        obtain ⟨a, ha, rfl⟩ := map_some h
        exact snd_expr fx hx (ihE c env e a fx ha).2.1
      | Assign ts e p => exact ok_asg ok fx h
      | Return e p =>
        cases e with
        | none => exact nn h
        | some e =>
          obtain ⟨a, ha, rfl⟩ := map_some h
          exact snd_ret (ihE c env e a fx ha).2.1
      | If t b o p =>
        obtain ⟨mt, mb, mo, ht, hb, ho, rfl⟩ := opt3_some h
        exact snd_ite (ihE c env t mt fx ht).2.2 (ihSs c env b mb fx hb) (ihSs c env o mo fx ho)
      | For t iter b o p => exact ok_for fx (fun i hi => (ihI c env iter i fx hi).2) (fun ms hms => ihSs c env b ms fx hms) h
      | _ => exact nn h
    · cases ss with
      | nil => cases h; exact snd_snil
      | cons st ss =>
        obtain ⟨a, b, ha, hb, rfl⟩ := opt2_some h
        exact snd_scons (ihS c env st a fx ha) (ihSs c env ss b fx hb)
end
end Mine
end

/-! M9h -/
section
set_option autoImplicit false
set_option linter.all false
namespace Mine
open PySem PyProof.Rows

theorem lookup_zip {l : List Str} {vals : List Value} (hl : l.length = vals.length) {x : Str} (hx : x ∈ l) : ((l.zip vals).lookup x).isSome = true := by
  induction l generalizing vals with
  | nil => cases hx
  | cons y l ih =>
    cases vals with
    | nil => simp at hl
    | cons v vals =>
      rw [List.zip_cons_cons, List.lookup_cons]
      cases hb : x == y with
      | true => rfl
      | false =>
        rcases List.mem_cons.mp hx with h | h
        · subst h; simp at hb
        · exact ih (by simpa using hl) h
theorem zip_filterMap : ∀ {l : List Str} {vals : List Value} (_ : l.length = vals.length) (_ : l.Nodup), l.filterMap (fun n => ((l.zip vals).lookup n).map (n, ·)) = l.zip vals
  | [], vals, hl, _ => by cases vals <;> simp at hl ⊢
  | y :: l, [], hl, _ => by simp at hl
  | y :: l, v :: vals, hl, nd => by
    obtain ⟨h1, h2⟩ := List.nodup_cons.mp nd
    have ih := zip_filterMap (l := l) (vals := vals) (by simpa using hl) h2
    rw [List.zip_cons_cons, List.filterMap_cons]
    simp only [List.lookup_cons, beq_self_eq_true, Option.map_some]
    congr 1
    have cg : ∀ (l' : List Str) (f g : Str → Option (Str × Value)), (∀ n ∈ l', f n = g n) → l'.filterMap f = l'.filterMap g := by
      intro l' f g
      induction l' with
      | nil => intro _; rfl
      | cons z l' ih' => intro h; rw [List.filterMap_cons, List.filterMap_cons, h z List.mem_cons_self, ih' fun n hn => h n (List.mem_cons_of_mem _ hn)]
    refine (cg l _ _ fun n hn => ?_).trans ih
    have : (n == y) = false := by
      rw [beq_eq_false_iff_ne]; intro e; subst e; exact h1 hn
    simp only [this]

theorem bind_plain {fd : FuncData} {vals : List Value} (h1 : fd.params.posonlyargs = []) (h2 : fd.params.kwonlyargs = []) (h3 : fd.params.vararg = none) (h4 : fd.params.kwarg = none) (h5 : fd.defaults = .none) (hl : (pnames fd.params).length = vals.length) (nd : (pnames fd.params).Nodup) :
    bindArgs fd ⟨vals, []⟩ = pure ((pnames fd.params).zip vals) := by
  unfold bindArgs
  simp only [h1, h2, h3, h4, h5, List.map_nil, List.nil_append, List.forIn_nil, pure_bind, List.append_nil]
  show (seqItems? .none >>= _) = _
  rw [show seqItems? .none = pure none from rfl]
  simp only [pure_bind, Option.getD_none, List.drop_nil, List.length_nil, Nat.sub_zero]
  have e1 : ¬ (vals.length > (pnames fd.params).length) := by omega
  have e2 : ((pnames fd.params).take (pnames fd.params).length).filter (fun n => (((pnames fd.params).zip vals).lookup n).isNone) = [] := by
    rw [List.filter_eq_nil_iff]
    intro a ha
    have := lookup_zip hl (List.mem_of_mem_take ha)
    simpa [Option.isNone_iff_eq_none, Option.isSome_iff_ne_none] using this
  have e3 := zip_filterMap hl nd
  generalize hP : pnames fd.params = P at *
  have hP' : List.map (fun x => x.arg) fd.params.args = P := hP
  simp only [hP', Option.isNone_none, Bool.and_true, decide_eq_true_eq]
  rw [if_neg e1, e2]
  simp [e3]


/-! ## the state at a function's entry -/
theorem cells_has : ∀ (names : List (Str × NameKind)) (k : Nat) (acc : List (Str × Addr)) {x : Str}, ((x, NameKind.cell) ∈ names ∨ (acc.lookup x).isSome = true) → ((cellsFrom k names acc).lookup x).isSome = true
  | [], _, acc, x, h => by
    rcases h with h | h
    · cases h
    · exact h
  | (y, kind) :: r, k, acc, x, h => by
    unfold cellsFrom
    split
    · refine cells_has r (k + 1) _ ?_
      rcases h with h | h
      · rcases List.mem_cons.mp h with e | h
        · right; rw [List.lookup_cons]; cases e; simp
        · left; exact h
      · right
        rw [List.lookup_cons]
        split
        · rfl
        · exact h
    · rename_i hk
      refine cells_has r k _ ?_
      rcases h with h | h
      · rcases List.mem_cons.mp h with e | h
        · cases e; simp at hk
        · left; exact h
      · right; exact h

theorem bindL_none {K : Str → Option NameKind} : ∀ {binds : List (Str × Value)} {m : Str → Option Value} {x : Str}, x ∉ binds.map (·.1) → bindL K binds m x = m x
  | [], _, _, _ => rfl
  | (y, v) :: r, m, x, h => by
    unfold bindL
    rw [List.map_cons, List.mem_cons, not_or] at h
    rw [bindL_none h.2]
    split
    · show (if x = y then some v else m x) = m x
      rw [if_neg h.1]
    · rfl
theorem bindC_none {K : Str → Option NameKind} : ∀ {binds : List (Str × Value)} {m : Str → Option Value} {x : Str}, x ∉ binds.map (·.1) → bindC K binds m x = m x
  | [], _, _, _ => rfl
  | (y, v) :: r, m, x, h => by
    unfold bindC
    rw [List.map_cons, List.mem_cons, not_or] at h
    rw [bindC_none h.2]
    split
    · rfl
    · show (if x = y then some v else m x) = m x
      rw [if_neg h.1]
theorem bindLC {K : Str → Option NameKind} : ∀ {binds : List (Str × Value)} {m cm : Str → Option Value} {x : Str} {v : Value}, (binds.map (·.1)).Nodup → (x, v) ∈ binds → (if K x = some .local then bindL K binds m x else bindC K binds cm x) = some v
  | (y, u) :: r, m, cm, x, v, nd, h => by
    rw [List.map_cons, List.nodup_cons] at nd
    unfold bindL bindC
    rcases List.mem_cons.mp h with e | h
    · cases e
      rw [bindL_none nd.1, bindC_none nd.1]
      split <;> simp
    · exact bindLC nd.2 h

theorem tab_lt : ∀ (names : List Str) (k : Nat) {x : Str} {i : Nat}, (tabOf k names).lookup x = some i → k ≤ i ∧ i < k + names.length ∧ names[i - k]? = some x
  | [], _, _, _, h => by simp [tabOf] at h
  | y :: r, k, x, i, h => by
    rw [tabOf, List.lookup_cons] at h
    split at h
    · rename_i hb
      injection h with h
      subst h
      rw [eq_of_beq hb]
      exact ⟨Nat.le_refl _, by simp, by simp⟩
    · obtain ⟨h1, h2, h3⟩ := tab_lt r (k + 1) h
      refine ⟨by omega, by simp; omega, ?_⟩
      rw [show i - k = (i - (k + 1)) + 1 by omega, List.getElem?_cons_succ]
      exact h3

/-- a function of the program -/
structure FunOk (cx : Cx) (f : Str) (a : Addr) (fd : FuncData) (body : List Stmt) (mf : MFun) : Prop where
  g : cx.G f = some (.ref a)
  base : ∃ o, cx.base a o ∧ o.data = .func fd
  stmts : fd.body = .stmts body
  clo : fd.closure = []
  globals : fd.globals = mainGlobals
  builtins : fd.builtins = builtinsNs
  defaults : fd.defaults = .none
  code : ∀ h, cx.In h → h.CodeRec fd.code fd.qualname
  comp : cFun cx.globs cx.consts mf.names fd.params fd.scope body = some mf

noncomputable def entryσ (mf : MFun) (args : List PV) : List (Option PV) := args.map some ++ List.replicate (mf.names.length - mf.params) none
noncomputable def retQ (Q : PV → Hp → Prop) : Fl → List (Option PV) → Hp → Prop := fun fl _ H => match fl with
  | .ret p => Q p H
  | .next => Q .none H

section
variable {cx : Cx} {n : Nat}
theorem call_fun (ok : CxOk cx) {f : Str} {a : Addr} {fd : FuncData} {body : List Stmt} {mf : MFun} (hf : FunOk cx f a fd body mf) {args : List PV} {Q : PV → Hp → Prop} {E : Addr → Hp → Prop} {H : Hp} (hlen : args.length = mf.params)
    (h : wSs cx n mf.body (retQ Q) noE' (entryσ mf args) H) : CallW cx (n + 1) (.g f) args Q E H := by
  intro A s vals hr hh hv i
  match vals, hv with
  | [], hv => simp [RepL] at hv
  | v :: vals, hv =>
  simp only [RepL] at hv
  obtain ⟨hv0, hvs⟩ := hv
  have hv0 : v = .ref a := by
    simp only [Rep] at hv0
    rw [hf.g] at hv0; injection hv0 with hv0; exact hv0.symm
  subst hv0
  have hvl := repL_length hvs
  have hcomp := hf.comp
  unfold cFun at hcomp
  split at hcomp
  case isFalse => cases hcomp
  rename_i hc
  simp only [Bool.and_eq_true, decide_eq_true_eq, beq_iff_eq, List.isEmpty_iff, Option.isNone_iff_eq_none, List.all_eq_true, Bool.or_eq_true, Bool.not_eq_true'] at hc
  obtain ⟨⟨⟨⟨⟨⟨⟨⟨⟨⟨⟨⟨⟨nd, htake⟩, hpo⟩, hva⟩, hko⟩, hkw⟩, hdf⟩, hkd⟩, hall⟩, hkind⟩, hgen⟩, hcor⟩, hcells⟩, nds⟩ := hc
  obtain ⟨mb, hmb, hmf⟩ := Option.map_eq_some_iff.mp hcomp
  have hpar : mf.params = fd.params.args.length := by rw [← hmf]
  have hbod : mf.body = mb := by rw [← hmf]
  have hpn : (pnames fd.params).length = vals.length := by rw [hvl, hlen, hpar]; simp [pnames]
  have ndp : (pnames fd.params).Nodup := by rw [← htake]; exact List.Nodup.sublist (List.take_sublist _ _) nd
  obtain ⟨o, hbo, hdat⟩ := hf.base
  have hbind := bind_plain (fd := fd) (vals := vals) hpo hko hva hkw hf.defaults hpn ndp
  have nloc : ∀ x ∈ mf.names, fd.scope.names.lookup x = some .local ∨ (fd.scope.names.lookup x = some .cell ∧ ((cellsFrom (s.heap.objs.size + 1) fd.scope.names []).lookup x).isSome = true) := fun x hx => by
    rcases hall x hx with h | h
    · exact .inl h
    · exact .inr ⟨h, cells_has _ _ _ (.inl (mem_of_lookup h))⟩
  have hin : ∀ x ∈ pnames fd.params, x ∈ mf.names := fun x hx => List.mem_of_mem_take (htake ▸ hx)
  have bkeys : ((pnames fd.params).zip vals).map (·.1) = pnames fd.params := by
    rw [List.map_fst_zip]; omega
  show wpAny _ A (call (.ref a) vals) _ _ s
  refine wpAny_call (codeAny_call_cells (A := A) (by have := hr.1; omega) (i.base a o hbo) hdat (ok.nolim _ i.base) (hf.code _ i.base) hf.stmts hbind hf.clo (fun x hx => ?_) (fun s₁ x => ?_) hcor hgen hkind)
  · refine nloc x.1 (hin x.1 ?_)
    rw [← bkeys]
    exact List.mem_map_of_mem hx
  generalize hS : s.heap.objs.size = L at *
  have hk : ∀ b o, s.heap.get? b = some o → s₁.heap.get? b = some o := x.toInCall.keep
  have hsame : Same s s₁ := by obtain ⟨h', tk, e⟩ := x.toInCall.same; exact ⟨h', tk, e⟩
  have st₀ : Step noF s H s₁ H := .grown hsame hk
  have i₁ : Inv cx H s₁ := i.grown hk
  have fsetL : ∀ b, Fset (callEnvC fd L a) b → L ≤ b := fun b hb => by
    rcases hb with rfl | ⟨y, hy⟩
    · exact Nat.le_refl _
    · exact Nat.le_of_lt (x.above y b (mem_of_lookup hy))
  have fresh : ∀ b, Fset (callEnvC fd L a) b → s.heap.get? b = none := fun b hb => by
    cases e : s.heap.get? b with
    | none => rfl
    | some o => exact absurd (Heap.lt_size e) (Nat.not_lt.mpr (hS ▸ fsetL b hb))
  have fx : FxOk cx ⟨tabOf 0 mf.names, fd.scope.names, mf.names.length⟩ (callEnvC fd L a) := by
    refine ⟨hkind, rfl, hf.globals, hf.builtins, fun y j hy => ?_, fun y z j hy hz => ?_, x.apart, fun y b hy e => ?_, fun y j hy => ?_⟩
    · obtain ⟨_, _, h3⟩ := tab_lt _ _ hy
      rcases nloc y (List.mem_of_getElem? h3) with h | ⟨h, h'⟩
      · exact .inl h
      · exact .inr ⟨h, Option.isSome_iff_exists.mp h'⟩
    · obtain ⟨_, _, h3⟩ := tab_lt _ _ hy
      obtain ⟨_, _, h3'⟩ := tab_lt _ _ hz
      rw [h3] at h3'; injection h3'
    · have := x.above y b (mem_of_lookup hy)
      rw [e] at this
      exact Nat.lt_irrefl _ this
    · have := (tab_lt _ _ hy).2.1
      simpa using this
  have at₁ : At cx ⟨tabOf 0 mf.names, fd.scope.names, mf.names.length⟩ (callEnvC fd L a) (entryσ mf args) H s₁ := by
    refine ⟨i₁, ⟨_, _, x.toInCall.ns, x.cell, fun y j p hy hj => ?_⟩, fun b hb => ?_, fun b o hb he => ?_, ?_⟩
    · obtain ⟨_, h2, h3⟩ := tab_lt _ _ hy
      simp only [Nat.sub_zero] at h3
      have hjl : j < args.length := by
        rcases Nat.lt_or_ge j args.length with h | h
        · exact h
        · unfold entryσ at hj
          rw [List.getElem?_append_right (by simpa using h)] at hj
          rw [List.getElem?_replicate] at hj
          split at hj <;> simp at hj
      have hp : args[j]? = some p := by
        unfold entryσ at hj
        rw [List.getElem?_append_left (by simpa using hjl), List.getElem?_map] at hj
        simpa using hj
      obtain ⟨w, hw, rw'⟩ := repL_get hvs hp
      have hyp : (pnames fd.params)[j]? = some y := by
        rw [← htake, List.getElem?_take]
        rw [if_pos (by rw [← hpar, ← hlen]; exact hjl)]
        exact h3
      have hm : (y, w) ∈ (pnames fd.params).zip vals := by
        refine List.mem_of_getElem? (i := j) ?_
        rw [List.getElem?_zip_eq_some]
        exact ⟨hyp, hw⟩
      exact ⟨w, bindLC (by rw [bkeys]; exact ndp) hm, rep_grown hk rw'⟩
    · cases e : H b with
      | none => rfl
      | some o => exact absurd (fresh b hb) (i.dom_some (by rw [e]; simp))
    · have := i.base b o he
      rw [fresh b hb] at this; cases this
    · show (entryσ mf args).length = mf.names.length
      unfold entryσ
      have : mf.params ≤ mf.names.length := by
        have h1 : (mf.names.take fd.params.args.length).length = (pnames fd.params).length := by rw [htake]
        rw [List.length_take] at h1
        simp only [pnames, List.length_map] at h1
        omega
      simp; omega
  have hsnd := (sound_stmts ok n 60).2 _ _ _ _ fx hmb
  rw [hbod] at h
  refine wpAny_mono (hsnd (A.deeper (callEnvC fd L a)) _ H s₁ _ _ ?_ hh at₁ h) (fun fl s' h' => ?_) fun _ _ x => (by obtain ⟨_, _, _, _, _, _, h⟩ := x; exact h.elim)
  · refine ⟨?_, ?_⟩
    · have := hr.1
      show A.depth + 1 + n + 1 < recursionLimit
      omega
    · have := hr.2
      show A.units + 3 + 200 * n + 200 < cLine
      omega
  obtain ⟨fl', σ', H', r, a', st', q⟩ := h'
  have stA : Step noF s H s' H' := st₀.then st' fresh
  cases fl <;> cases fl' <;> simp only [FlRep] at r
  · exact ⟨.none, H', by simp [Rep], a'.inv, stA, q⟩
  · exact ⟨_, H', r, a'.inv, stA, q⟩
end

end Mine
end

/-! M10a -/
section
set_option autoImplicit false
set_option linter.all false
namespace Mine
open PySem PyProof.Rows

structure Std (cx : Cx) : Prop where
  isi : cx.G "isinstance" = some (.builtin "isinstance")
  len : cx.G "len" = some (.builtin "len")
  all : cx.G "all" = some (.builtin "all")
  int : cx.G "int" = some (.type "int")
  bool : cx.G "bool" = some (.type "bool")
  str : cx.G "str" = some (.type "str")
  tuple : cx.G "tuple" = some (.type "tuple")
  list : cx.G "list" = some (.type "list")

inductive Ty where
  | int | bool | str | tuple | list | dict
  deriving DecidableEq
inductive TyN : Str → String → Ty → Prop
  | int : TyN "int" "int" .int
  | bool : TyN "bool" "bool" .bool
  | str : TyN "str" "str" .str
  | tuple : TyN "tuple" "tuple" .tuple
  | list : TyN "list" "list" .list

noncomputable def isT (H : Hp) (p : PV) (T : Ty) : Option Bool := match p with
  | .none => some false
  | .bool _ => some (decide (T = .bool) || decide (T = .int))
  | .int _ => some (decide (T = .int))
  | .str _ => some (decide (T = .str))
  | .tup _ => some (decide (T = .tuple))
  | .ref a => match H a with
    | some (.list _) => some (decide (T = .list))
    | some (.froz _ _) => some (decide (T = .list))
    | some .dict => some (decide (T = .dict))
    | _ => Option.none
  | _ => Option.none

section
variable {cx : Cx} {n : Nat} {Q : PV → Hp → Prop} {E : Addr → Hp → Prop} {H : Hp}

theorem callw {f : PV} {args : List PV} (h : ∀ (A : Around) (s : Shared) (fv : Value) (vals : List Value), Room n A → A.handled = none → Rep cx s.heap fv f → RepL cx s.heap vals args → Inv cx H s → wpAny (model cx.prog cx.w) A (call fv vals) (Post cx s H Q) (EPost cx s H E) s) :
    CallW cx n f args Q E H := by
  intro A s vals hr hh hv i
  match vals, hv with
  | [], hv => simp [RepL] at hv
  | v :: vals, hv =>
    simp only [RepL] at hv
    exact h A s v vals hr hh hv.1 hv.2 i

theorem isinstance_r (sd : Std cx) {p : PV} {T : Str} {T' : String} {ty : Ty} (hT : TyN T T' ty) (h : ∃ b, isT H p ty = some b ∧ Q (.bool b) H) : CallW cx n (.g "isinstance") [p, .g T] Q E H := by
  refine callw fun A s fv vals hr hh rf rvs i => ?_
  obtain ⟨v, u, rfl, rv, ru⟩ := repL_two rvs
  clear rvs
  have hf : fv = .builtin "isinstance" := by simp only [Rep] at rf; rw [sd.isi] at rf; injection rf with rf; exact rf.symm
  subst hf
  have hu : u = .type T' := by
    simp only [Rep] at ru
    cases hT
    · rw [sd.int] at ru; injection ru with ru; exact ru.symm
    · rw [sd.bool] at ru; injection ru with ru; exact ru.symm
    · rw [sd.str] at ru; injection ru with ru; exact ru.symm
    · rw [sd.tuple] at ru; injection ru with ru; exact ru.symm
    · rw [sd.list] at ru; injection ru with ru; exact ru.symm
  subst hu
  obtain ⟨b, hb, h⟩ := h
  have lists : ∀ (a : Addr) (o : Obj), s.heap.get? a = some o → o.cls = .type "list" → some (decide (ty = .list)) = some b → wpAny (model cx.prog cx.w) A (call (.builtin "isinstance") [.ref a, .type T']) (Post cx s H Q) (EPost cx s H E) s := fun a o ho hc hb => by
    injection hb with hb
    subst hb
    cases hT
    · exact IsiPair.list_int ho hc (post_tok i (by simp [Rep]) h)
    · exact IsiPair.list_bool ho hc (post_tok i (by simp [Rep]) h)
    · exact IsiPair.list_str ho hc (post_tok i (by simp [Rep]) h)
    · exact IsiPair.list_tuple ho hc (post_tok i (by simp [Rep]) h)
    · exact IsiPair.list_list ho hc (post_bool i h)
  cases p <;> simp only [isT] at hb
  case none =>
    injection hb with hb
    subst hb
    simp only [Rep] at rv
    subst rv
    cases hT
    · exact IsiPair.NoneType_int (post_tok i (by simp [Rep]) h)
    · exact IsiPair.NoneType_bool (post_tok i (by simp [Rep]) h)
    · exact IsiPair.NoneType_str (post_tok i (by simp [Rep]) h)
    · exact IsiPair.NoneType_tuple (post_tok i (by simp [Rep]) h)
    · exact IsiPair.NoneType_list (post_tok i (by simp [Rep]) h)
  case bool c =>
    injection hb with hb
    subst hb
    simp only [Rep] at rv
    subst rv
    cases hT
    · exact IsiPair.bool_int (post_bool i h)
    · exact IsiPair.bool_bool (post_bool i h)
    · exact IsiPair.bool_str (post_tok i (by simp [Rep]) h)
    · exact IsiPair.bool_tuple (post_tok i (by simp [Rep]) h)
    · exact IsiPair.bool_list (post_tok i (by simp [Rep]) h)
  case int k =>
    injection hb with hb
    subst hb
    obtain ⟨t, rfl⟩ := (by simpa only [Rep] using rv : ∃ t, v = _)
    cases hT
    · exact IsiPair.int_int (post_bool i h)
    · exact IsiPair.int_bool (post_tok i (by simp [Rep]) h)
    · exact IsiPair.int_str (post_tok i (by simp [Rep]) h)
    · exact IsiPair.int_tuple (post_tok i (by simp [Rep]) h)
    · exact IsiPair.int_list (post_tok i (by simp [Rep]) h)
  case str k =>
    injection hb with hb
    subst hb
    obtain ⟨t, rfl⟩ := (by simpa only [Rep] using rv : ∃ t, v = _)
    cases hT
    · exact IsiPair.str_int (post_tok i (by simp [Rep]) h)
    · exact IsiPair.str_bool (post_tok i (by simp [Rep]) h)
    · exact IsiPair.str_str (post_bool i h)
    · exact IsiPair.str_tuple (post_tok i (by simp [Rep]) h)
    · exact IsiPair.str_list (post_tok i (by simp [Rep]) h)
  case tup l =>
    injection hb with hb
    subst hb
    obtain ⟨a, vs, m, rfl, ho, _⟩ := rep_tup rv
    cases hT
    · exact IsiPair.tuple_int ho rfl (post_tok i (by simp [Rep]) h)
    · exact IsiPair.tuple_bool ho rfl (post_tok i (by simp [Rep]) h)
    · exact IsiPair.tuple_str ho rfl (post_tok i (by simp [Rep]) h)
    · exact IsiPair.tuple_tuple ho rfl (post_bool i h)
    · exact IsiPair.tuple_list ho rfl (post_tok i (by simp [Rep]) h)
  case ref a =>
    have hv : v = .ref a := by simpa only [Rep] using rv
    subst hv
    split at hb
    · rename_i l hl
      obtain ⟨vs, m, ho, _⟩ := holds_list (i.ok a _ hl)
      exact lists a _ ho rfl hb
    · rename_i o l hl
      have := i.ok a _ hl
      simp only [HoldsO] at this
      obtain ⟨ho, vs, m, ⟨hc, _⟩, _⟩ := this
      exact lists a _ ho hc hb
    · rename_i hl
      have := i.ok a _ hl
      simp only [HoldsO] at this
      obtain ⟨o, es, ep, ho, hcl, _⟩ := this
      injection hb with hb
      subst hb
      cases hT
      · exact IsiPair.dict_int ho hcl (post_tok i (by simp [Rep]) h)
      · exact IsiPair.dict_bool ho hcl (post_tok i (by simp [Rep]) h)
      · exact IsiPair.dict_str ho hcl (post_tok i (by simp [Rep]) h)
      · exact IsiPair.dict_tuple ho hcl (post_tok i (by simp [Rep]) h)
      · exact IsiPair.dict_list ho hcl (post_tok i (by simp [Rep]) h)
    · cases hb
  all_goals cases hb

noncomputable def lenA (H : Hp) (p : PV) : Option Nat := match p with
  | .str s => some s.length
  | .tup l => some l.length
  | .ref a => match H a with
    | some (.list l) => some l.length
    | some (.froz _ l) => some l.length
    | _ => Option.none
  | _ => Option.none

theorem len_r (sd : Std cx) {p : PV} (h : ∃ k, lenA H p = some k ∧ k < 2 ^ 63 ∧ Q (.int k) H) : CallW cx n (.g "len") [p] Q E H := by
  refine callw fun A s fv vals hr hh rf rvs i => ?_
  obtain ⟨v, rfl, rv⟩ := repL_one rvs
  clear rvs
  have hf : fv = .builtin "len" := by simp only [Rep] at rf; rw [sd.len] at rf; injection rf with rf; exact rf.symm
  subst hf
  obtain ⟨k, hk, hlt, h⟩ := h
  have fin : ∀ (j : Nat) (t : Tok) (tk : Nat), j = k → Post cx s H Q (.int (j : Int) t) { s with toks := tk } := fun j t tk e => by subst e; exact post_int i h
  cases p <;> simp only [lenA] at hk
  case str x =>
    injection hk with hk
    obtain ⟨t, rfl⟩ := (by simpa only [Rep] using rv : ∃ t, v = _)
    exact PyProof.Rows.len_str (by omega) (fin _ _ _ hk)
  case tup l =>
    injection hk with hk
    obtain ⟨a, vs, m, rfl, ho, rl⟩ := rep_tup rv
    have hl := repL_length rl
    simp only [Array.length_toList] at hl
    exact PyProof.Rows.len_tuple (isTup_of ho) (by omega) (fin _ _ _ (by omega))
  case ref a =>
    have hv : v = .ref a := by simpa only [Rep] using rv
    subst hv
    split at hk
    · rename_i l hl'
      injection hk with hk
      obtain ⟨vs, m, ho, rl⟩ := holds_list (i.ok a _ hl')
      have hl := repL_length rl
      simp only [Array.length_toList] at hl
      exact Calls.call_len_list ⟨_, ho, rfl, m, rfl⟩ (by omega) (fin _ _ _ (by omega))
    · rename_i o l hl'
      injection hk with hk
      have := i.ok a _ hl'
      simp only [HoldsO] at this
      obtain ⟨ho, vs, m, ⟨hc, hd⟩, rl⟩ := this
      have hl := repL_length rl
      simp only [Array.length_toList] at hl
      exact Calls.call_len_list ⟨_, ho, hc, m, hd⟩ (by omega) (fin _ _ _ (by omega))
    · cases hk
  all_goals cases hk

/-! list methods -/
theorem append_r {a : Addr} {l : List PV} {p : PV} (hl : H a = some (.list l)) (hz : l.length ≤ sizeLine) (h : Q .none (upd H a (.list (l ++ [p])))) : CallW cx n (.bi "list.append") [.ref a, p] Q E H := by
  refine callw fun A s fv vals hr hh rf rvs i => ?_
  obtain ⟨v, u, rfl, rv, ru⟩ := repL_two rvs
  clear rvs
  have hf : fv = .builtin "list.append" := by simpa only [Rep] using rf
  have hv : v = .ref a := by simpa only [Rep] using rv
  subst hf hv
  obtain ⟨vs, m, ho, rl⟩ := holds_list (i.ok a _ hl)
  have hlen := repL_length rl
  simp only [Array.length_toList] at hlen
  refine append_exact ho (by omega) fun h' n' hn hs => ?_
  have hHn : H a ≠ none := by rw [hl]; simp
  have kp : ∀ b o, b ≠ a → s.heap.get? b = some o → h'.get? b = some o := fun b o hb e => (hs.2 b hb).trans e
  have tp := tup_keep (noTup_single ho rfl (by decide)) (keep_same hs)
  refine ⟨.none, _, by simp [Rep], i.set kp hHn ?_, .set ⟨h', s.toks, rfl⟩ kp hHn (by show h'.get? a ≠ none; rw [hn]; simp), h⟩
  simp only [HoldsO]
  exact ⟨_, n', hn, by simpa using repL_append (repL_keep tp _ rl) (show RepL cx h' [u] [p] by simp only [RepL]; exact ⟨rep_keep tp _ ru, trivial⟩)⟩

theorem clear_r {a : Addr} {l : List PV} (hl : H a = some (.list l)) (hz : l.length ≤ sizeLine) (h : Q .none (upd H a (.list []))) : CallW cx n (.bi "list.clear") [.ref a] Q E H := by
  refine callw fun A s fv vals hr hh rf rvs i => ?_
  obtain ⟨v, rfl, rv⟩ := repL_one rvs
  clear rvs
  have hf : fv = .builtin "list.clear" := by simpa only [Rep] using rf
  have hv : v = .ref a := by simpa only [Rep] using rv
  subst hf hv
  obtain ⟨vs, m, ho, rl⟩ := holds_list (i.ok a _ hl)
  have hlen := repL_length rl
  simp only [Array.length_toList] at hlen
  refine call_meets F.slot_list_clear ⟨_, ho, rfl⟩ F.entry_list_clear (F.args_list_clear_1 _) (AutoSeq1.list_clear_list_0 a vs m (by omega)) ⟨ho, ?_⟩
  have hHn : H a ≠ none := by rw [hl]; simp
  have hs : Heap.SameBut a s.heap (s.heap.update a (Obj.mapSeq fun _ => #[])) := Heap.SameBut.update ..
  have kp : ∀ b o, b ≠ a → s.heap.get? b = some o → (s.heap.update a (Obj.mapSeq fun _ => #[])).get? b = some o := fun b o hb e => (hs.2 b hb).trans e
  have hn := Heap.get?_update_self (Obj.mapSeq fun _ => (#[] : Array Value)) ho rfl
  refine ⟨.none, _, by simp [Rep], i.set (s' := { s with heap := s.heap.update a (Obj.mapSeq fun _ => #[]) }) kp hHn ?_, .set ⟨_, _, rfl⟩ kp hHn (by rw [hn]; simp), h⟩
  simp only [HoldsO]
  exact ⟨#[], _, hn, by simp [RepL]⟩

/-! texts put together -/
theorem strs_of {h : Heap} : ∀ {xs : List Str} {vs : List Value}, RepL cx h vs (xs.map .str) → ∃ l : List (Str × Tok), vs = strValues l ∧ l.map (·.1) = xs
  | [], [], _ => ⟨[], rfl, rfl⟩
  | x :: xs, v :: vs, r => by
    simp only [List.map_cons, RepL] at r
    obtain ⟨t, rfl⟩ := (by simpa only [Rep] using r.1 : ∃ t, v = _)
    obtain ⟨l, h1, h2⟩ := strs_of r.2
    exact ⟨(x, t) :: l, by rw [h1]; rfl, by simp [h2]⟩
  | [], _ :: _, r => by simp [RepL] at r
  | _ :: _, [], r => by simp [RepL] at r
theorem join_r {a : Addr} {x : Str} {xs : List Str} (hl : H a = some (.list (xs.map .str))) (hok : JoinOk x xs = true) (h : Q (.str (Txt.join x xs)) H) : CallW cx n (.bi "str.join") [.str x, .ref a] Q E H := by
  refine callw fun A s fv vals hr hh rf rvs i => ?_
  obtain ⟨v, u, rfl, rv, ru⟩ := repL_two rvs
  clear rvs
  have hf : fv = .builtin "str.join" := by simpa only [Rep] using rf
  have hu : u = .ref a := by simpa only [Rep] using ru
  obtain ⟨t, rfl⟩ := (by simpa only [Rep] using rv : ∃ t, v = _)
  subst hf hu
  obtain ⟨vs, m, ho, rl⟩ := holds_list (i.ok a _ hl)
  obtain ⟨l, h1, h2⟩ := strs_of rl
  have hvs : vs = (strValues l).toArray := by rw [← h1]
  exact SC.join (l := l) ⟨_, ho, rfl, m, by rw [hvs]⟩ h2 hok fun t' k => post_str i h

/-! all -/
theorem all_r (sd : Std cx) {a : Addr} {bs : List Bool} (hl : H a = some (.list (bs.map .bool))) (h : Q (.bool (bs.all id)) H) : CallW cx n (.g "all") [.ref a] Q E H := by
  refine callw fun A s fv vals hr hh rf rvs i => ?_
  obtain ⟨v, rfl, rv⟩ := repL_one rvs
  clear rvs
  have hf : fv = .builtin "all" := by simp only [Rep] at rf; rw [sd.all] at rf; injection rf with rf; exact rf.symm
  have hv : v = .ref a := by simpa only [Rep] using rv
  subst hf hv
  obtain ⟨vs, m, ho, rl⟩ := holds_list (i.ok a _ hl)
  have hlen := repL_length rl
  simp only [Array.length_toList, List.length_map] at hlen
  have hL : s.heap.IsList a vs := ⟨_, ho, rfl, m, rfl⟩
  have hne : a ≠ s.heap.objs.size := Nat.ne_of_lt (Heap.lt_size ho)
  refine call_all_walk (wpAny_pyIter_list hL ⟨s.heap.objs.size, _, _, _, _, _, fun k => bs.getD k true, rfl, Walks.list (by simpa using hh) _ a hne vs, ⟨⟨_, Heap.get?_push_size _ rfl, rfl, rfl⟩, ⟨_, Heap.get?_push_of_some _ ho, rfl, m, rfl⟩⟩, ?_, ?_⟩)
  · intro k w s' Q' E' hw hQ'
    have hk : k < bs.length := by
      have := (Array.getElem?_eq_some_iff.mp hw).1
      omega
    obtain ⟨w', h1, h2⟩ := repL_get rl (i := k) (p := .bool bs[k]) (by simp [hk])
    have : w = w' := by
      rw [Array.getElem?_toList, hw] at h1; injection h1
    subst this
    simp only [Rep] at h2
    subst h2
    refine wpAny_truthy_bool ?_
    simpa [List.getD, hk] using hQ'
  · intro h' tk hk
    have hk' : ∀ b o, s.heap.get? b = some o → h'.get? b = some o := fun b o e => hk b o (by simp; exact Nat.ne_of_lt (Heap.lt_size e)) (Heap.get?_push_of_some _ e)
    have e : ((List.range vs.size).all fun k => bs.getD k true) = bs.all id := by
      rw [hlen, Bool.eq_iff_iff, List.all_eq_true, List.all_eq_true]
      constructor
      · intro hh' x hx
        obtain ⟨k, hk1, hk2⟩ := List.getElem_of_mem hx
        have := hh' k (by simpa using hk1)
        simpa [List.getD, hk1, hk2] using this
      · intro hh' k hk1
        simp only [List.mem_range] at hk1
        have := hh' bs[k] (List.getElem_mem hk1)
        simpa [List.getD, hk1] using this
    rw [e]
    exact post_grown i hk' (by simp [Rep]) h
end
end Mine
end

/-! M10b -/
section
set_option autoImplicit false
set_option linter.all false
namespace Mine
open PySem PyProof.Rows

mutual
noncomputable def toD : PV → PyData
  | .none => .none
  | .bool b => .bool b
  | .int i => .int i
  | .str s => .str s
  | .tup l => .tuple (toDL l)
  | .ref _ => .none
  | .g _ => .none
  | .bi _ => .none
noncomputable def toDL : List PV → List PyData
  | [] => []
  | p :: ps => toD p :: toDL ps
end

/-- data of a bounded depth, without truth values -/
noncomputable def Dat : Nat → PV → Prop
  | _, .none => True
  | _, .int _ => True
  | _, .str s => PyData.strOk s = true
  | k + 1, .tup l => ∀ x ∈ l, Dat k x
  | _, _ => False

section
variable {cx : Cx} {h : Heap}
theorem dat_reads : ∀ (k : Nat) (p : PV) {v : Value}, Dat k p → Rep cx h v p → ∃ as, Reads h v (toD p) as := by
  intro k
  induction k with
  | zero =>
    intro p v hd r
    cases p <;> simp only [Dat] at hd <;> simp only [Rep] at r
    · subst r; exact ⟨_, .none⟩
    · obtain ⟨t, rfl⟩ := r; exact ⟨_, .int _ _⟩
    · obtain ⟨t, rfl⟩ := r; exact ⟨_, .str _ _⟩
  | succ k ih =>
    intro p v hd r
    cases p <;> simp only [Dat] at hd
    · simp only [Rep] at r; subst r; exact ⟨_, .none⟩
    · simp only [Rep] at r; obtain ⟨t, rfl⟩ := r; exact ⟨_, .int _ _⟩
    · simp only [Rep] at r; obtain ⟨t, rfl⟩ := r; exact ⟨_, .str _ _⟩
    · rename_i l
      obtain ⟨a, vs, n, rfl, ho, rl⟩ := rep_tup r
      have go : ∀ (l : List PV) (vs : List Value), (∀ x ∈ l, Dat k x) → RepL cx h vs l → ∃ as, ReadsAll h vs (toDL l) as := by
        intro l
        induction l with
        | nil => intro vs _ r; cases vs with | nil => exact ⟨_, .nil⟩ | cons _ _ => simp [RepL] at r
        | cons p ps ih' =>
          intro vs hd r
          cases vs with
          | nil => simp [RepL] at r
          | cons v vs =>
            simp only [RepL] at r
            obtain ⟨as, h1⟩ := ih p (hd p List.mem_cons_self) r.1
            obtain ⟨bs, h2⟩ := ih' vs (fun x hx => hd x (List.mem_cons_of_mem _ hx)) r.2
            exact ⟨_, .cons h1 h2⟩
      obtain ⟨as, h1⟩ := go l _ hd rl
      exact ⟨as, .tuple ho rfl rfl h1⟩
theorem dats_reads {k : Nat} : ∀ (l : List PV) (vs : List Value), (∀ x ∈ l, Dat k x) → RepL cx h vs l → ∃ as, ReadsAll h vs (toDL l) as
  | [], vs, _, r => by cases vs with | nil => exact ⟨_, .nil⟩ | cons _ _ => simp [RepL] at r
  | p :: ps, [], _, r => by simp [RepL] at r
  | p :: ps, v :: vs, hd, r => by
    simp only [RepL] at r
    obtain ⟨as, h1⟩ := dat_reads k p (hd p List.mem_cons_self) r.1
    obtain ⟨bs, h2⟩ := dats_reads ps vs (fun x hx => hd x (List.mem_cons_of_mem _ hx)) r.2
    exact ⟨_, .cons h1 h2⟩
end

theorem lay_all {k : Nat} (ih : ∀ p, Dat k p → (toD p).canLay0 = true ∧ (toD p).depth ≤ k) : ∀ l : List PV, (∀ x ∈ l, Dat k x) → PyData.canLayAll0 (toDL l) = true ∧ PyData.depthAll (toDL l) ≤ k
  | [], _ => by simp [toDL, PyData.canLayAll0, PyData.depthAll]
  | p :: ps, h => by
    have h1 := ih p (h p List.mem_cons_self)
    have h2 := lay_all ih ps fun x hx => h x (List.mem_cons_of_mem _ hx)
    simp only [toDL, PyData.canLayAll0, PyData.depthAll, Bool.and_eq_true]
    exact ⟨⟨h1.1, h2.1⟩, Nat.max_le.mpr ⟨h1.2, h2.2⟩⟩
theorem dat_lay : ∀ (k : Nat) (p : PV), Dat k p → (toD p).canLay0 = true ∧ (toD p).depth ≤ k
  | 0, p, h => by
    cases p <;> simp only [Dat] at h <;> simp [toD, PyData.canLay0, PyData.depth]
    exact h
  | k + 1, p, h => by
    cases p <;> simp only [Dat] at h
    · simp [toD, PyData.canLay0, PyData.depth]
    · simp [toD, PyData.canLay0, PyData.depth]
    · simp [toD, PyData.canLay0, PyData.depth, h]
    · rename_i l
      have := lay_all (dat_lay k) l h
      simp only [toD, PyData.canLay0, PyData.depth]
      exact ⟨this.1, Nat.succ_le_succ this.2⟩
theorem dats_lay {k : Nat} (l : List PV) (h : ∀ x ∈ l, Dat k x) : PyData.canLayAll0 (toDL l) = true ∧ PyData.depthAll (toDL l) ≤ k := lay_all (dat_lay k) l h

theorem eqv_all {k k' : Nat} (ih : ∀ p q, Dat k p → Dat k' q → (PyData.eqv (toD p) (toD q) = true ↔ p = q)) : ∀ l l' : List PV, (∀ x ∈ l, Dat k x) → (∀ x ∈ l', Dat k' x) → (PyData.eqvAll (toDL l) (toDL l') = true ↔ l = l')
  | [], [], _, _ => by simp [toDL, PyData.eqvAll]
  | [], _ :: _, _, _ => by simp [toDL, PyData.eqvAll]
  | _ :: _, [], _, _ => by simp [toDL, PyData.eqvAll]
  | p :: ps, q :: qs, h, h' => by
    simp only [toDL, PyData.eqvAll, Bool.and_eq_true, List.cons.injEq]
    rw [ih p q (h p List.mem_cons_self) (h' q List.mem_cons_self), eqv_all ih ps qs (fun x hx => h x (List.mem_cons_of_mem _ hx)) fun x hx => h' x (List.mem_cons_of_mem _ hx)]
theorem dat_eqv : ∀ (k k' : Nat) (p q : PV), Dat k p → Dat k' q → (PyData.eqv (toD p) (toD q) = true ↔ p = q) := by
  intro k
  induction k with
  | zero =>
    intro k' p q hp hq
    cases p <;> simp only [Dat] at hp <;> cases q <;> (try (cases k' <;> simp only [Dat] at hq)) <;> simp [toD, PyData.eqv]
  | succ k ih =>
    intro k' p q hp hq
    cases p <;> simp only [Dat] at hp
    case tup l =>
      cases q <;> (try (cases k' <;> simp only [Dat] at hq)) <;> try (simp [toD, PyData.eqv]; done)
      rename_i l' k'
      simp only [toD, PyData.eqv, PV.tup.injEq]
      exact eqv_all (fun p q h1 h2 => ih k' p q h1 h2) l l' hp hq
    all_goals cases q <;> (try (cases k' <;> simp only [Dat] at hq)) <;> simp [toD, PyData.eqv]
theorem dats_eqv {k k' : Nat} (l l' : List PV) (h : ∀ x ∈ l, Dat k x) (h' : ∀ x ∈ l', Dat k' x) : (PyData.eqvAll (toDL l) (toDL l') = true ↔ l = l') := eqv_all (dat_eqv k k') l l' h h'

section
variable {cx : Cx} {n : Nat} {Q : PV → Hp → Prop} {E : Addr → Hp → Prop} {H : Hp}

theorem room_min {A : Around} {a b k : Nat} (hr : Room n A) (h : a ≤ k) (hk : k ≤ 60) : A.units + min a b < cLine := by
  have := hr.units64
  have := Nat.min_le_left a b
  omega

theorem eqD {a b : PV} {k k' : Nat} (ha : Dat k a) (hb : Dat k' b) (hk : k ≤ 60) (h : ∀ r : Bool, (r = true ↔ a = b) → Q (.bool r) H) : CmpW cx n .Eq a b Q E H :=
  SW.two fun A s va vb hr hh ra rb i => by
    obtain ⟨as, r1⟩ := dat_reads k a ha ra
    obtain ⟨bs, r2⟩ := dat_reads k' b hb rb
    exact SeqAt.compareEq_reads r1 r2 (dat_lay k a ha).1 (dat_lay k' b hb).1 (room_min hr (dat_lay k a ha).2 hk) (post_bool i (h _ (dat_eqv k k' a b ha hb)))
theorem neD {a b : PV} {k k' : Nat} (ha : Dat k a) (hb : Dat k' b) (hk : k ≤ 60) (h : ∀ r : Bool, (r = true ↔ ¬ a = b) → Q (.bool r) H) : CmpW cx n .NotEq a b Q E H :=
  SW.two fun A s va vb hr hh ra rb i => by
    obtain ⟨as, r1⟩ := dat_reads k a ha ra
    obtain ⟨bs, r2⟩ := dat_reads k' b hb rb
    refine SeqAt.compareNe_reads r1 r2 (dat_lay k a ha).1 (dat_lay k' b hb).1 (room_min hr (dat_lay k a ha).2 hk) (post_bool i (h _ ?_))
    rw [← dat_eqv k k' a b ha hb]; simp
theorem list_reads {a : Addr} {l : List PV} {k : Nat} {s : Shared} (i : Inv cx H s) (hl : H a = some (.list l)) (hd : ∀ x ∈ l, Dat k x) : ∃ as, Reads s.heap (.ref a) (.list (toDL l)) as := by
  obtain ⟨vs, m, ho, rl⟩ := holds_list (i.ok a _ hl)
  obtain ⟨as, r⟩ := dats_reads l _ hd rl
  exact ⟨_, .list ho rfl rfl r⟩
theorem eqL {a b : Addr} {l l' : List PV} {k k' : Nat} (hla : H a = some (.list l)) (hlb : H b = some (.list l')) (ha : ∀ x ∈ l, Dat k x) (hb : ∀ x ∈ l', Dat k' x) (hk : k ≤ 59) (h : ∀ r : Bool, (r = true ↔ l = l') → Q (.bool r) H) : CmpW cx n .Eq (.ref a) (.ref b) Q E H :=
  SW.two fun A s va vb hr hh ra rb i => by
    have e1 : va = .ref a := by simpa only [Rep] using ra
    have e2 : vb = .ref b := by simpa only [Rep] using rb
    subst e1 e2
    obtain ⟨as, r1⟩ := list_reads i hla ha
    obtain ⟨bs, r2⟩ := list_reads i hlb hb
    have l1 := dats_lay l ha
    have l2 := dats_lay l' hb
    exact SeqAt.compareEq_reads r1 r2 l1.1 l2.1 (room_min hr (Nat.succ_le_succ l1.2) (by omega)) (post_bool i (h _ (dats_eqv l l' ha hb)))
theorem neL {a b : Addr} {l l' : List PV} {k k' : Nat} (hla : H a = some (.list l)) (hlb : H b = some (.list l')) (ha : ∀ x ∈ l, Dat k x) (hb : ∀ x ∈ l', Dat k' x) (hk : k ≤ 59) (h : ∀ r : Bool, (r = true ↔ ¬ l = l') → Q (.bool r) H) : CmpW cx n .NotEq (.ref a) (.ref b) Q E H :=
  SW.two fun A s va vb hr hh ra rb i => by
    have e1 : va = .ref a := by simpa only [Rep] using ra
    have e2 : vb = .ref b := by simpa only [Rep] using rb
    subst e1 e2
    obtain ⟨as, r1⟩ := list_reads i hla ha
    obtain ⟨bs, r2⟩ := list_reads i hlb hb
    have l1 := dats_lay l ha
    have l2 := dats_lay l' hb
    refine SeqAt.compareNe_reads r1 r2 l1.1 l2.1 (room_min hr (Nat.succ_le_succ l1.2) (by omega)) (post_bool i (h _ ?_))
    rw [← dats_eqv l l' ha hb]; simp [PyData.eqv]
theorem eqB {a b : Bool} (h : Q (.bool (a == b)) H) : CmpW cx n .Eq (.bool a) (.bool b) Q E H :=
  SW.two fun A s va vb hr hh ra rb i => by
    have e1 : va = .bool a := by simpa only [Rep] using ra
    have e2 : vb = .bool b := by simpa only [Rep] using rb
    subst e1 e2
    exact SeqAt.compareEq_reads (.bool a) (.bool b) rfl rfl (room_min (k := 0) hr (Nat.le_refl _) (by omega)) (post_bool i h)
theorem inStr {x y : Str} (h : Q (.bool !(Builtin.Str.occurrences x y 0 x.length 1).isEmpty) H) : CmpW cx n .In (.str y) (.str x) Q E H :=
  SW.two fun A s va vb hr hh ra rb i => by
    obtain ⟨t, rfl⟩ := (by simpa only [Rep] using ra : ∃ t, va = _)
    obtain ⟨u, rfl⟩ := (by simpa only [Rep] using rb : ∃ t, vb = _)
    exact PySem.P.in_str (post_bool i h)
theorem notInStr {x y : Str} (h : Q (.bool (!!(Builtin.Str.occurrences x y 0 x.length 1).isEmpty)) H) : CmpW cx n .NotIn (.str y) (.str x) Q E H :=
  SW.two fun A s va vb hr hh ra rb i => by
    obtain ⟨t, rfl⟩ := (by simpa only [Rep] using ra : ∃ t, va = _)
    obtain ⟨u, rfl⟩ := (by simpa only [Rep] using rb : ∃ t, vb = _)
    exact PySem.P.notIn_str (post_bool i h)
end
end Mine
end

/-! M11 -/
section
set_option autoImplicit false
set_option linter.all false
namespace Mine
open PySem PyProof.Rows

/-- what stands while a law runs -/
noncomputable def cxOf (prog : Program) (w : World) (mg mb : Str → Option Value) (h₁ : Heap) (a : Addr) (gl : List Str) (ks : List (Str × PV)) : Cx where
  prog := prog
  w := w
  G := fun x => match mg x with | some v => some v | none => mb x
  base := fun b o => b ≠ a ∧ h₁.get? b = some o
  globs := gl
  consts := ks

theorem ns_keeps_but {h h' : Heap} {a d : Addr} {o : Obj} {m : Str → Option Value} {vs : Array Value} {k : Nat} (x : h.Ns d m) (ha : h.get? a = some o) (hd : o.data = .seq vs k) (hk : ∀ b ob, b ≠ a ∧ h.get? b = some ob → h'.get? b = some ob) : h'.Ns d m := by
  obtain ⟨ob, es, ep, e, r⟩ := x
  refine ⟨ob, es, ep, hk _ _ ⟨fun hda => ?_, e⟩, r⟩
  subst hda
  rw [ha] at e; injection e with e; subst e
  rw [hd] at r; simp at r

section
variable {prog : Program} {w : World} {mg mb : Str → Option Value} {s : Shared} {a : Addr} {o : Obj} {vs : Array Value} {k : Nat} {gl : List Str} {ks : List (Str × PV)} {N : Nat} {defs : List DefItem} {consts : List (Str × PyData)} {objs : List (Str × (Obj → Prop))} {names : List Str}

theorem keepOk_ref {cx : Cx} {f : Addr} {ob : Obj} {fd : FuncData} (hb : cx.base f ob) (hd : ob.data = .func fd) : KeepOk cx (.ref f) := by
  intro A E s Q hin q
  unfold keeperOf
  refine wpAny_bind (wpAny_load (hin f ob hb) ?_)
  rw [hd]
  exact wpAny_pure (q _)

/-- which names stand for what -/
noncomputable def GOk (cx : Cx) (mg mb : Str → Option Value) (x : Str) : Prop := ∃ v, (mg x = some v ∨ (mg x = none ∧ mb x = some v)) ∧ KeepOk cx v

theorem gok_fun {cx : Cx} (GL : Glob N mg mb defs consts objs names s.heap) (ha : s.heap.get? a = some o) (hd : o.data = .seq vs k) (hb : ∀ b ob, b ≠ a → s.heap.get? b = some ob → cx.base b ob) {d : DefItem} (hm : d ∈ defs) (hnd : d.params.defaults = []) : GOk cx mg mb d.name := by
  obtain ⟨f, c', ob, pm, doc, _, _, h3, h4, h5, h6⟩ := (GL.made d hm).plain hnd
  refine ⟨.ref f, .inl h3, keepOk_ref (hb f ob (fun e => ?_) h4) h5⟩
  subst e
  rw [ha] at h4; injection h4 with h4; subst h4; rw [hd] at h5; cases h5
theorem gok_bi {cx : Cx} (GL : Glob N mg mb defs consts objs names s.heap) {x : Str} {v : Value} (hv : bootBuiltins x = some v) (hr : ∀ f, v ≠ .ref f) (hf : x ∉ names) (hb : x ∉ bootMainNames) (hn : x ≠ "__name__") : GOk cx mg mb x := by
  refine ⟨v, .inr ⟨GL.free x hf hb, (GL.builtins x hn).trans hv⟩, fun A E s Q _ q => ?_⟩
  cases v <;> first | exact wpAny_pure (q _) | exact absurd rfl (hr _)
theorem g_bi (GL : Glob N mg mb defs consts objs names s.heap) {x : Str} {v : Value} (hv : bootBuiltins x = some v) (hf : x ∉ names) (hb : x ∉ bootMainNames) (hn : x ≠ "__name__") : (cxOf prog w mg mb s.heap a gl ks).G x = some v := by
  show (match mg x with | some v => some v | none => mb x) = some v
  rw [GL.free x hf hb, GL.builtins x hn, hv]

theorem cxOk_of (GL : Glob N mg mb defs consts objs names s.heap) (ha : s.heap.get? a = some o) (hd : o.data = .seq vs k) (hgl : ∀ x ∈ gl, GOk (cxOf prog w mg mb s.heap a gl ks) mg mb x)
    (hty : ∀ x ∈ bTypes, x.1 ∈ gl → (cxOf prog w mg mb s.heap a gl ks).G x.1 = some (.type x.2))
    (hks : ∀ x p, (x, p) ∈ ks → x ∈ gl ∧ ∃ v, mg x = some v ∧ ∀ h, Rep (cxOf prog w mg mb s.heap a gl ks) h v p) : CxOk (cxOf prog w mg mb s.heap a gl ks) := by
  have gv : ∀ x v, (mg x = some v ∨ (mg x = none ∧ mb x = some v)) → (cxOf prog w mg mb s.heap a gl ks).G x = some v := fun x v h => by
    show (match mg x with | some v => some v | none => mb x) = some v
    rcases h with h | ⟨h1, h2⟩
    · rw [h]
    · rw [h1]; exact h2
  refine ⟨hty, fun x v hx hg => ?_, ?_, fun h hin => ?_, fun h hin => ?_, fun x hx => ?_, fun x p hp => ?_⟩
  · obtain ⟨v', h1, h2⟩ := hgl x hx
    rw [gv x v' h1] at hg; injection hg with hg; subst hg; exact h2
  · obtain ⟨mm, hn, _⟩ := GL.seer.mods
    obtain ⟨ob, es, ep, e, r⟩ := hn
    refine ⟨ob, fun hda => ?_, e⟩
    rw [hda, ha] at e; injection e with e; subst e
    rw [hd] at r; simp at r
  · obtain ⟨mc, hn, h1⟩ := GL.nolimit
    exact ⟨mc, ns_keeps_but hn ha hd hin, h1⟩
  · refine ⟨mg, mb, ns_keeps_but GL.g ha hd hin, ns_keeps_but GL.b ha hd hin, fun x hx v hv => ?_⟩
    obtain ⟨v', h1, _⟩ := hgl x hx
    rw [gv x v' h1] at hv; injection hv with hv; subst hv; exact h1
  · obtain ⟨v, h1, _⟩ := hgl x hx
    exact ⟨v, gv x v h1⟩
  · obtain ⟨h1, v, h2, h3⟩ := hks x p hp
    exact ⟨h1, v, gv x v (.inl h2), h3⟩

theorem funOk_of (GL : Glob N mg mb defs consts objs names s.heap) (ha : s.heap.get? a = some o) (hc : o.cls = .type "list") (hd : o.data = .seq vs k) {d : DefItem} (hm : d ∈ defs) (hnd : d.params.defaults = []) {mf : MFun} (hcomp : cFun gl ks mf.names d.params d.scope d.body = some mf) :
    ∃ f fd, FunOk (cxOf prog w mg mb s.heap a gl ks) d.name f fd d.body mf := by
  obtain ⟨f, c', ob, pm, doc, _, _, h3, h4, h5, h6⟩ := (GL.made d hm).plain hnd
  refine ⟨f, _, ?_, ⟨ob, ⟨fun e => ?_, h4⟩, h5⟩, rfl, rfl, rfl, rfl, rfl, fun h hin => ?_, hcomp⟩
  · show (match mg d.name with | some v => some v | none => mb d.name) = some (.ref f)
    rw [h3]
  · subst e
    rw [ha] at h4; injection h4 with h4; subst h4; rw [hd] at h5; cases h5
  · obtain ⟨c, oc, vs', t, e, g, hf, r⟩ := h6
    refine ⟨c, oc, vs', t, e, hin c oc ⟨fun e' => ?_, g⟩, hf, r⟩
    subst e'
    rw [ha] at g; injection g with g; subst g; rw [hd] at hf; cases hf

/-- the start: the script is the one thing that is followed -/
noncomputable def H0 (a : Addr) (o : Obj) (ns : List Int) : Hp := fun b => if b = a then some (.froz o (ns.map .int)) else none

theorem ints_rep {cx : Cx} {h : Heap} : ∀ {l : List Value} {ns : List Int}, IntsAre l ns → RepL cx h l (ns.map .int)
  | [], _, .nil => by simp [RepL]
  | _ :: l, _, .cons n t hI => by
    simp only [List.map_cons, RepL]
    exact ⟨by simp [Rep], ints_rep hI⟩

theorem inv0 {ns : List Int} (ha : s.heap.get? a = some o) (hc : o.cls = .type "list") (hd : o.data = .seq vs k) (hI : IntsAre vs.toList ns) : Inv (cxOf prog w mg mb s.heap a gl ks) (H0 a o ns) s := by
  refine ⟨fun b ob e => e.2, fun b ob e => ?_, fun b ob e => ?_⟩
  · show (if b = a then _ else _) = none
    rw [if_neg e.1]
  · unfold H0 at e
    split at e
    · rename_i hb
      subst hb
      injection e with e
      subst e
      simp only [HoldsO]
      exact ⟨ha, vs, k, ⟨hc, hd⟩, ints_rep hI⟩
    · cases e

theorem law_end {c : W.ClaimW} {cl : Str → Option Addr} {mean : ExcName → Option Value} {args : List W.WData} {E : Value → Shared → Prop} {ns : List Int} {n : Nat} {x : Str} {fa : Addr}
    (hraise : ∀ cls, c.raises args cls = false) (hpost : c.post args (.bool true) args = true)
    (ha : s.heap.get? a = some o) (hc : o.cls = .type "list") (hd : o.data = .seq vs k) (hI : IntsAre vs.toList ns) (hg : s.gens = #[]) (hroom : Room n callerA)
    (hG : (cxOf prog w mg mb s.heap a gl ks).G x = some (.ref fa))
    (hcall : CallW (cxOf prog w mg mb s.heap a gl ks) n (.g x) [.ref a] (fun p H' => p = .bool true ∧ H' a = some (.froz o (ns.map .int))) noE (H0 a o ns)) :
    wpAny (model prog w) callerA (call (.ref fa) [.ref a]) (fun v s' => W.GoodWG c cl mean args s (.ok (.ret v)) s') E s := by
  have := hcall callerA s [.ref fa, .ref a] hroom rfl (by simp only [RepL, Rep]; exact ⟨hG, trivial, trivial⟩) (inv0 ha hc hd hI)
  refine wpAny_mono this (fun v s' h => ?_) fun e s' h => no_e _ h
  obtain ⟨p, H', r, i, st, rfl, hH⟩ := h
  simp only [Rep] at r
  subst r
  obtain ⟨h', tk, e⟩ := st.same
  refine W.GoodW.toG ⟨.inl ⟨.bool true, .bool true, [], rfl, hraise, .bool _, hpost, fun _ => ⟨by simp, by simp⟩⟩, fun b ob e' => ?_, by rw [e], by rw [e]; exact hg⟩
  by_cases hb : b = a
  · subst hb
    have := i.ok b _ hH
    simp only [HoldsO] at this
    rw [ha] at e'; injection e' with e'; subst e'
    exact this.1
  · refine st.keep b ob (fun h => h.elim (fun h => h ?_) id) e'
    show (if b = a then _ else _) = none
    rw [if_neg hb]
end
end Mine
end

/-! M14 -/
section
set_option autoImplicit false
set_option linter.all false
namespace Mine
open PySem PyProof.Rows
section
variable {prog : Program} {w : World} {mg mb : Str → Option Value} {s : Shared} {a : Addr} {o : Obj} {vs : Array Value} {k : Nat} {gl : List Str} {ks : List (Str × PV)} {N : Nat} {defs : List DefItem} {consts : List (Str × PyData)} {objs : List (Str × (Obj → Prop))} {names : List Str}
theorem fn_of (GL : Glob N mg mb defs consts objs names s.heap) (ha : s.heap.get? a = some o) (hc : o.cls = .type "list") (hd : o.data = .seq vs k) {nm : Str} {mf : MFun}
    (t : ∃ d ∈ defs, d.name = nm ∧ d.params.defaults = [] ∧ cFun gl ks mf.names d.params d.scope d.body = some mf) : ∃ f fd body, FunOk (cxOf prog w mg mb s.heap a gl ks) nm f fd body mf := by
  obtain ⟨d, hm, e, hnd, hcf⟩ := t
  obtain ⟨f, fd, h⟩ := funOk_of (prog := prog) (w := w) GL ha hc hd hm hnd hcf
  exact ⟨f, fd, d.body, e ▸ h⟩
theorem gok_of (GL : Glob N mg mb defs consts objs names s.heap) (ha : s.heap.get? a = some o) (hd : o.data = .seq vs k) {nm : Str} {mf : MFun}
    (t : ∃ d ∈ defs, d.name = nm ∧ d.params.defaults = [] ∧ cFun gl ks mf.names d.params d.scope d.body = some mf) : GOk (cxOf prog w mg mb s.heap a gl ks) mg mb nm := by
  obtain ⟨d, hm, e, hnd, hcf⟩ := t
  exact e ▸ gok_fun (cx := cxOf prog w mg mb s.heap a gl ks) GL ha hd (fun b ob h1 h2 => ⟨h1, h2⟩) hm hnd
theorem gok_b {cx : Cx} (GL : Glob N mg mb defs consts objs names s.heap) {x : Str} {id : String} (hv : bootBuiltins x = some (.builtin id)) (hf : x ∉ names) (hb : x ∉ bootMainNames) (hn : x ≠ "__name__") : GOk cx mg mb x := gok_bi GL hv (by simp) hf hb hn
theorem gok_t {cx : Cx} (GL : Glob N mg mb defs consts objs names s.heap) {x : Str} {id : String} (hv : bootBuiltins x = some (.type id)) (hf : x ∉ names) (hb : x ∉ bootMainNames) (hn : x ≠ "__name__") : GOk cx mg mb x := gok_bi GL hv (by simp) hf hb hn
end
end Mine
end

/-! M12 -/
section
set_option autoImplicit false
set_option linter.all false
namespace Mine
open PySem PyProof.Rows

section
variable {cx : Cx} {n : Nat} {σ : List (Option PV)} {Q : PV → Hp → Prop} {E : Addr → Hp → Prop} {H : Hp}

/-! steps of the mini language, one at a time -/
theorem x_none (h : Q .none H) : wE cx n σ .none Q E H := h
theorem x_bool {b : Bool} (h : Q (.bool b) H) : wE cx n σ (.bool b) Q E H := h
theorem x_int {i : Int} (h : Q (.int i) H) : wE cx n σ (.int i) Q E H := h
theorem x_str {x : Str} (h : Q (.str x) H) : wE cx n σ (.str x) Q E H := h
theorem x_var {i : Nat} {p : PV} (hp : σ[i]? = some (some p)) (h : Q p H) : wE cx n σ (.var i) Q E H := by rw [wE_var, hp]; exact h
theorem x_glob {x : Str} (h : Q (.g x) H) : wE cx n σ (.glob x) Q E H := h
theorem x_gconst {p : PV} (h : Q p H) : wE cx n σ (.gconst p) Q E H := h
theorem x_and {a b : MExpr} (h : wE cx n σ a (fun v H₁ => asB v fun x => if x = true then wE cx n σ b Q E H₁ else Q (.bool false) H₁) E H) : wE cx n σ (.and a b) Q E H := h
theorem x_or {a b : MExpr} (h : wE cx n σ a (fun v H₁ => asB v fun x => if x = true then Q (.bool true) H₁ else wE cx n σ b Q E H₁) E H) : wE cx n σ (.or a b) Q E H := h
theorem x_not {a : MExpr} (h : wE cx n σ a (fun v H₁ => asB v fun b => Q (.bool !b) H₁) E H) : wE cx n σ (.not a) Q E H := h
theorem x_neg {a : MExpr} (h : wE cx n σ a (fun v H₁ => asI v fun i => Q (.int (-i)) H₁) E H) : wE cx n σ (.neg a) Q E H := h
theorem x_bin {op : Operator} {l r : MExpr} (h : wE cx n σ l (fun a H₁ => wE cx n σ r (fun b H₂ => binA cx n op a b Q E H₂) E H₁) E H) : wE cx n σ (.bin op l r) Q E H := h
theorem x_cmp {op : CmpOp} {l r : MExpr} (h : wE cx n σ l (fun a H₁ => wE cx n σ r (fun b H₂ => cmpA cx n op a b Q E H₂) E H₁) E H) : wE cx n σ (.cmp op l r) Q E H := h
theorem x_cmp2 {op op' : CmpOp} {l m r : MExpr} (h : wE cx n σ l (fun a H₁ => wE cx n σ m (fun b H₂ => cmpA cx n op a b (fun v H₃ => asB v fun x => if x = true then wE cx n σ r (fun c H₄ => cmpA cx n op' b c Q E H₄) E H₃ else Q (.bool false) H₃) E H₂) E H₁) E H) :
    wE cx n σ (.cmp2 op op' l m r) Q E H := h
theorem x_call {f : MExpr} {args : MExprs} (h : wE cx n σ f (fun fv H₁ => wEs cx n σ args (fun vs H₂ => CallW cx n fv vs Q E H₂) E H₁) E H) : wE cx n σ (.call f args) Q E H := h
theorem x_meth {o : MExpr} {m : Meth} {args : MExprs} (h : wE cx n σ o (fun ov H₁ => methA ov m (fun fv => wEs cx n σ args (fun vs H₂ => CallW cx n fv (ov :: vs) Q E H₂) E H₁) H₁) E H) : wE cx n σ (.meth o m args) Q E H := h
theorem x_sub {o i : MExpr} (h : wE cx n σ o (fun ov H₁ => wE cx n σ i (fun iv H₂ => subA ov iv Q H₂) E H₁) E H) : wE cx n σ (.sub o i) Q E H := h
theorem x_slTo {o i : MExpr} (h : wE cx n σ o (fun ov H₁ => wE cx n σ i (fun iv H₂ => slToA ov iv Q H₂) E H₁) E H) : wE cx n σ (.sliceTo o i) Q E H := h
theorem x_slFrom {o i : MExpr} (h : wE cx n σ o (fun ov H₁ => wE cx n σ i (fun iv H₂ => slFromA ov iv Q H₂) E H₁) E H) : wE cx n σ (.sliceFrom o i) Q E H := h
theorem x_list {es : MExprs} (h : wEs cx n σ es (fun ps H₁ => ps.length ≤ sizeLine ∧ ∀ a, H₁ a = none → Q (.ref a) (upd H₁ a (.list ps))) E H) : wE cx n σ (.list es) Q E H := h
theorem x_tup {es : MExprs} (h : wEs cx n σ es (fun ps H₁ => ps.length ≤ sizeLine ∧ Q (.tup ps) H₁) E H) : wE cx n σ (.tup es) Q E H := h
theorem x_dict0 (h : ∀ a, H a = none → Q (.ref a) (upd H a .dict)) : wE cx n σ .dict0 Q E H := h
theorem x_dict1 {k v : MExpr} (h : wE cx n σ k (fun kv H₁ => wE cx n σ v (fun _ H₂ => asI kv fun _ => ∀ a, H₂ a = none → Q (.ref a) (upd H₂ a .dict)) E H₁) E H) : wE cx n σ (.dict1 k v) Q E H := h
theorem x_listOf {e : MExpr} (h : wE cx n σ e (fun v H₁ => lotA v (fun items => items.length ≤ sizeLine ∧ ∀ a, H₁ a = none → Q (.ref a) (upd H₁ a (.list items))) H₁) E H) : wE cx n σ (.listOf e) Q E H := h
theorem x_comp {t : MTgt} {it : MIter} {elt : MExpr} (h : wIt cx n σ it (fun items dep H₁ => items.length ≤ sizeLine ∧ compW dep (fun x K H₂ => ∃ σ', bindT (σ ++ [none, none]) t x = some σ' ∧ wE cx n σ' elt (fun p H₃ => K (some p) H₃) noE H₂) items [] Q H₁) E H) :
    wE cx n σ (.comp t it elt) Q E H := h
theorem x_compIf {t : MTgt} {it : MIter} {c elt : MExpr} (h : wIt cx n σ it (fun items dep H₁ => items.length ≤ sizeLine ∧ compW dep (fun x K H₂ => ∃ σ', bindT (σ ++ [none, none]) t x = some σ' ∧ wE cx n σ' c (fun v H₃ => asB v fun x => if x = true then wE cx n σ' elt (fun p H₄ => K (some p) H₄) noE H₃ else K none H₃) noE H₂) items [] Q H₁) E H) :
    wE cx n σ (.compIf t it c elt) Q E H := h
theorem x_nil {Q : List PV → Hp → Prop} (h : Q [] H) : wEs cx n σ .nil Q E H := h
theorem x_cons {Q : List PV → Hp → Prop} {e : MExpr} {es : MExprs} (h : wE cx n σ e (fun p H₁ => wEs cx n σ es (fun ps H₂ => Q (p :: ps) H₂) E H₁) E H) : wEs cx n σ (.cons e es) Q E H := h
section
variable {Q : List PV → (Hp → Prop) → Hp → Prop}
theorem x_iex {e : MExpr} (h : wE cx n σ e (fun v H₁ => itemsA v Q H₁) E H) : wIt cx n σ (.ex e) Q E H := h
theorem x_ienum {e : MExpr} (h : wE cx n σ e (fun v H₁ => seqA v (fun l dep H₂ => Q (enumL 0 l) dep H₂) H₁) E H) : wIt cx n σ (.enum e) Q E H := h
theorem x_irng {e : MExpr} (h : wE cx n σ e (fun v H₁ => asI v fun k => (-(2 ^ 62) < k ∧ k < 2 ^ 62) ∧ Q (rangeL 0 k) (fun _ => True) H₁) E H) : wIt cx n σ (.rng e) Q E H := h
theorem i_str {s : Str} (h : Q (chars s) (fun _ => True) H) : itemsA (.str s) Q H := h
theorem i_tup {l : List PV} (h : Q l (fun _ => True) H) : itemsA (.tup l) Q H := h
theorem i_list {a : Addr} {l : List PV} (hl : H a = some (.list l)) (h : Q l (fun H => H a = some (.list l)) H) : itemsA (.ref a) Q H := by simp only [itemsA, hl]; exact h
theorem q_str {s : Str} (h : Q (chars s) (fun _ => True) H) : seqA (.str s) Q H := h
theorem q_list {a : Addr} {l : List PV} (hl : H a = some (.list l)) (h : Q l (fun H => H a = some (.list l)) H) : seqA (.ref a) Q H := by simp only [seqA, hl]; exact h
end

theorem x_asB {b : Bool} {K : Bool → Prop} (h : K b) : asB (.bool b) K := h
theorem x_asI {b : Int} {K : Int → Prop} (h : K b) : asI (.int b) K := h
theorem x_if {b : Bool} {P R : Prop} (h1 : b = true → P) (h2 : b = false → R) : if b = true then P else R := by
  cases b
  · exact h2 rfl
  · exact h1 rfl
theorem x_ifT {P R : Prop} (h1 : P) : if true = true then P else R := h1
theorem x_ifF {P R : Prop} (h1 : R) : if false = true then P else R := h1

theorem idx_chars_of {x : Str} {k : Int} {c : Nat} (h : idx x.cps.toList k = some c) : idx (chars x) k = some (chr c) := by
  unfold idx chars
  unfold idx at h
  simp only [List.length_map, List.getElem?_map]
  split at h
  · rw [if_pos (by assumption), h]; rfl
  · split at h
    · rw [if_neg (by assumption), if_pos (by assumption), h]; rfl
    · cases h

/-! operators -/
theorem b_add {x y : Int} (h : Q (.int (x + y)) H) : binA cx n .Add (.int x) (.int y) Q E H := h
theorem b_sub {x y : Int} (h : Q (.int (x - y)) H) : binA cx n .Sub (.int x) (.int y) Q E H := h
theorem b_mul {x y : Int} (hm : IntMulOk x y) (h : Q (.int (x * y)) H) : binA cx n .Mult (.int x) (.int y) Q E H := ⟨hm, h⟩
theorem b_div {x y : Int} (h1 : 0 < y ∧ y < 2 ^ 62) (h : Q (.int (x / y)) H) : binA cx n .FloorDiv (.int x) (.int y) Q E H := ⟨h1, h⟩
theorem b_mod {x y : Int} (h1 : 0 < y) (h : Q (.int (x % y)) H) : binA cx n .Mod (.int x) (.int y) Q E H := ⟨h1, h⟩
theorem b_pow {x y : Int} (h1 : 0 ≤ y ∧ y ≤ 1000 ∧ x.natAbs < 2 ^ 64) (h : Q (.int (x ^ y.toNat)) H) : binA cx n .Pow (.int x) (.int y) Q E H := ⟨h1, h⟩
theorem b_str {x y : Str} (h1 : x.length + y.length ≤ sizeLine) (h : Q (.str (x ++ y)) H) : binA cx n .Add (.str x) (.str y) Q E H := ⟨h1, h⟩
theorem b_tup {x y : List PV} (h1 : x.length + y.length ≤ sizeLine) (h : Q (.tup (x ++ y)) H) : binA cx n .Add (.tup x) (.tup y) Q E H := ⟨h1, h⟩

theorem k_lt {x y : Int} (h : Q (.bool (decide (x < y))) H) : cmpA cx n .Lt (.int x) (.int y) Q E H := h
theorem k_le {x y : Int} (h : Q (.bool (decide (x ≤ y))) H) : cmpA cx n .LtE (.int x) (.int y) Q E H := h
theorem k_gt {x y : Int} (h : Q (.bool (decide (y < x))) H) : cmpA cx n .Gt (.int x) (.int y) Q E H := h
theorem k_ge {x y : Int} (h : Q (.bool (decide (y ≤ x))) H) : cmpA cx n .GtE (.int x) (.int y) Q E H := h
theorem k_eq {x y : Int} (h : Q (.bool (decide (x = y))) H) : cmpA cx n .Eq (.int x) (.int y) Q E H := h
theorem k_ne {x y : Int} (h : Q (.bool (decide (x ≠ y))) H) : cmpA cx n .NotEq (.int x) (.int y) Q E H := h
theorem k_seq {x y : Str} (h : Q (.bool (decide (x = y))) H) : cmpA cx n .Eq (.str x) (.str y) Q E H := h
theorem k_sne {x y : Str} (h : Q (.bool (decide (x ≠ y))) H) : cmpA cx n .NotEq (.str x) (.str y) Q E H := h
theorem k_isnb {b c : Bool} (h : Q (.bool (b != c)) H) : cmpA cx n .IsNot (.bool b) (.bool c) Q E H := h
theorem k_is_none {a : PV} (ha : a ≠ .none ∧ (∀ x, a ≠ .g x) ∧ ∀ x, a ≠ .bi x) (h : Q (.bool false) H) : cmpA cx n .Is a .none Q E H := by
  cases a <;> first | exact h | exact absurd rfl ha.1 | exact absurd rfl (ha.2.1 _) | exact absurd rfl (ha.2.2 _)
theorem k_isn_none {a : PV} (ha : a ≠ .none ∧ (∀ x, a ≠ .g x) ∧ ∀ x, a ≠ .bi x) (h : Q (.bool true) H) : cmpA cx n .IsNot a .none Q E H := by
  cases a <;> first | exact h | exact absurd rfl ha.1 | exact absurd rfl (ha.2.1 _) | exact absurd rfl (ha.2.2 _)
theorem k_is_n (h : Q (.bool true) H) : cmpA cx n .Is .none .none Q E H := h
theorem k_isn_n (h : Q (.bool false) H) : cmpA cx n .IsNot .none .none Q E H := h
theorem k_in {a b : PV} (h : CmpW cx n .In a b Q E H) : cmpA cx n .In a b Q E H := h
theorem k_nin {a b : PV} (h : CmpW cx n .NotIn a b Q E H) : cmpA cx n .NotIn a b Q E H := h
/-- == and != where the left is no number and no text -/
noncomputable def noIS : PV → Bool
  | .int _ => false
  | .str _ => false
  | _ => true
theorem k_oeq {a b : PV} (h : CmpW cx n .Eq a b Q E H) (ha : noIS a = true) : cmpA cx n .Eq a b Q E H := by
  cases a with
  | int _ => cases ha
  | str _ => cases ha
  | _ => exact h
theorem k_one {a b : PV} (h : CmpW cx n .NotEq a b Q E H) (ha : noIS a = true) : cmpA cx n .NotEq a b Q E H := by
  cases a with
  | int _ => cases ha
  | str _ => cases ha
  | _ => exact h

theorem s_tup {l : List PV} {k : Int} {p : PV} (e : idx l k = some p) (h : Q p H) (hk : -(2 ^ 62) < k ∧ k < 2 ^ 62 := by decide) : subA (.tup l) (.int k) Q H := ⟨hk, p, e, h⟩
theorem s_str {s : Str} {k : Int} {c : Nat} (e : idx s.cps.toList k = some c) (hk : -(2 ^ 62) < k ∧ k < 2 ^ 62) (h : Q (chr c) H) : subA (.str s) (.int k) Q H := ⟨hk, chr c, idx_chars_of e, h⟩
theorem s_list {a : Addr} {l : List PV} {k : Int} {p : PV} (hl : H a = some (.list l)) (e : idx l k = some p) (hk : -(2 ^ 62) < k ∧ k < 2 ^ 62) (h : Q p H) : subA (.ref a) (.int k) Q H := by simp only [subA, hl]; exact ⟨hk, p, e, h⟩
theorem s_froz {a : Addr} {o : Obj} {l : List PV} {k : Int} {p : PV} (hl : H a = some (.froz o l)) (e : idx l k = some p) (hk : -(2 ^ 62) < k ∧ k < 2 ^ 62) (h : Q p H) : subA (.ref a) (.int k) Q H := by simp only [subA, hl]; exact ⟨hk, p, e, h⟩
theorem t_str {s : Str} {k : Int} (h1 : s.length ≤ sizeLine) (h : Q (.str ⟨(slTo s.cps.toList k).toArray⟩) H) (hk : -(2 ^ 62) < k ∧ k < 2 ^ 62 := by decide) : slToA (.str s) (.int k) Q H := ⟨hk, h1, h⟩
theorem f_str {s : Str} {k : Int} (h1 : s.length ≤ sizeLine) (h : Q (.str ⟨(slFrom s.cps.toList k).toArray⟩) H) (hk : -(2 ^ 62) < k ∧ k < 2 ^ 62 := by decide) : slFromA (.str s) (.int k) Q H := ⟨hk, h1, h⟩
theorem t_tup {l : List PV} {k : Int} (h1 : l.length ≤ sizeLine) (hk : -(2 ^ 62) < k ∧ k < 2 ^ 62) (h : Q (.tup (slTo l k)) H) : slToA (.tup l) (.int k) Q H := ⟨hk, h1, h⟩
theorem f_tup {l : List PV} {k : Int} (h1 : l.length ≤ sizeLine) (hk : -(2 ^ 62) < k ∧ k < 2 ^ 62) (h : Q (.tup (slFrom l k)) H) : slFromA (.tup l) (.int k) Q H := ⟨hk, h1, h⟩
theorem l_tup {l : List PV} {Q : List PV → Prop} (h : Q l) : lotA (.tup l) Q H := h
theorem l_list {a : Addr} {l : List PV} {Q : List PV → Prop} (hl : H a = some (.list l)) (h : Q l) : lotA (.ref a) Q H := by simp only [lotA, hl]; exact h
theorem m_join {s : Str} {Q : PV → Prop} (h : Q (.bi "str.join")) : methA (.str s) .join Q H := h
theorem m_append {a : Addr} {l : List PV} {Q : PV → Prop} (hl : H a = some (.list l)) (h : Q (.bi "list.append")) : methA (.ref a) .append Q H := by simp only [methA, hl]; exact h
theorem m_clear {a : Addr} {l : List PV} {Q : PV → Prop} (hl : H a = some (.list l)) (h : Q (.bi "list.clear")) : methA (.ref a) .clear Q H := by simp only [methA, hl]; exact h

/-! statements -/
section
variable {Q : Fl → List (Option PV) → Hp → Prop} {E : Addr → List (Option PV) → Hp → Prop}
theorem y_nil (h : Q .next σ H) : wSs cx n .nil Q E σ H := h
theorem y_cons {s : MStmt} {ss : MStmts} (h : wS cx n s (fun fl σ₁ H₁ => match fl with | .next => wSs cx n ss Q E σ₁ H₁ | fl => Q fl σ₁ H₁) E σ H) : wSs cx n (.cons s ss) Q E σ H := h
theorem y_expr {e : MExpr} (h : wE cx n σ e (fun _ H₁ => Q .next σ H₁) (fun x H => E x σ H) H) : wS cx n (.expr e) Q E σ H := h
theorem y_asg {t : MTgt} {e : MExpr} (h : wE cx n σ e (fun p H₁ => ∃ σ', bindT σ t p = some σ' ∧ Q .next σ' H₁) (fun x H => E x σ H) H) : wS cx n (.asg t e) Q E σ H := h
theorem y_ret {e : MExpr} (h : wE cx n σ e (fun p H₁ => Q (.ret p) σ H₁) (fun x H => E x σ H) H) : wS cx n (.ret e) Q E σ H := h
theorem y_ite {t : MExpr} {b o : MStmts} (h : wE cx n σ t (fun v H₁ => asB v fun x => if x = true then wSs cx n b Q E σ H₁ else wSs cx n o Q E σ H₁) (fun x H => E x σ H) H) : wS cx n (.ite t b o) Q E σ H := h
theorem y_for {t : MTgt} {it : MIter} {b : MStmts} (h : wIt cx n σ it (fun items dep H₁ => forW dep (fun σ x => bindT σ t x) (fun K σ H => wSs cx n b K noE' σ H) Q items σ H₁) (fun x H => E x σ H) H) : wS cx n (.for t it b) Q E σ H := h
theorem y_bind {t : MTgt} {p : PV} {σ' : List (Option PV)} {P : List (Option PV) → Prop} (e : bindT σ t p = some σ') (h : P σ') : ∃ σ', bindT σ t p = some σ' ∧ P σ' := ⟨σ', e, h⟩
end

/-- loops: an invariant over what is still to come -/
theorem for_inv {dep : Hp → Prop} {bind : List (Option PV) → PV → Option (List (Option PV))} {body : (Fl → List (Option PV) → Hp → Prop) → List (Option PV) → Hp → Prop} {Q : Fl → List (Option PV) → Hp → Prop}
    (I : List PV → List (Option PV) → Hp → Prop) (hdep : ∀ l σ H, I l σ H → dep H) (hend : ∀ σ H, I [] σ H → Q .next σ H)
    (hstep : ∀ (R : List (Option PV) → Hp → Prop) x l σ H, I (x :: l) σ H → (∀ σ₂ H₂, I l σ₂ H₂ → R σ₂ H₂) → ∃ σ₁, bind σ x = some σ₁ ∧ body (fun fl σ₂ H₂ => match fl with | .next => R σ₂ H₂ | .ret p => Q (.ret p) σ₂ H₂) σ₁ H) :
    ∀ (items : List PV) (σ : List (Option PV)) (H : Hp), I items σ H → forW dep bind body Q items σ H
  | [], σ, H, h => by simp only [forW]; exact ⟨hdep _ _ _ h, hend _ _ h⟩
  | x :: l, σ, H, h => by
    simp only [forW]
    exact ⟨hdep _ _ _ h, hstep _ x l σ H h fun σ₂ H₂ hI => for_inv I hdep hend hstep l σ₂ H₂ hI⟩
theorem comp_inv {dep : Hp → Prop} {f : PV → (Option PV → Hp → Prop) → Hp → Prop} {Q : PV → Hp → Prop} (I : List PV → List PV → Hp → Prop) (hdep : ∀ l acc H, I l acc H → dep H)
    (hend : ∀ acc H, I [] acc H → ∀ a, H a = none → Q (.ref a) (upd H a (.list acc)))
    (hstep : ∀ (K : Option PV → Hp → Prop) x l acc H, I (x :: l) acc H → (∀ r H₂, I l (match r with | some p => acc ++ [p] | none => acc) H₂ → K r H₂) → f x K H) :
    ∀ (items acc : List PV) (H : Hp), I items acc H → compW dep f items acc Q H
  | [], acc, H, h => by simp only [compW]; exact ⟨hdep _ _ _ h, hend _ _ h⟩
  | x :: l, acc, H, h => by
    simp only [compW]
    exact ⟨hdep _ _ _ h, hstep _ x l acc H h fun r H₂ hI => comp_inv I hdep hend hstep l _ H₂ hI⟩
/-- a comprehension that changes nothing -/
theorem comp_map {dep : Hp → Prop} {f : PV → (Option PV → Hp → Prop) → Hp → Prop} {Q : PV → Hp → Prop} {H : Hp} {items : List PV} (g : PV → PV) (hdep : dep H) (hf : ∀ x ∈ items, ∀ K : Option PV → Hp → Prop, K (some (g x)) H → f x K H)
    (h : ∀ a, H a = none → Q (.ref a) (upd H a (.list (items.map g)))) : compW dep f items [] Q H := by
  refine comp_inv (fun l acc H' => H' = H ∧ (∀ x ∈ l, x ∈ items) ∧ acc ++ l.map g = items.map g) (fun _ _ _ h => h.1 ▸ hdep) (fun acc H' hI a ha => ?_) (fun K x l acc H' hI hK => ?_) items [] H ⟨rfl, fun _ h => h, by simp⟩
  · obtain ⟨rfl, _, e⟩ := hI
    simp only [List.map_nil, List.append_nil] at e
    rw [e]; exact h a ha
  · obtain ⟨rfl, hm, e⟩ := hI
    exact hf x (hm x List.mem_cons_self) K (hK _ _ ⟨rfl, fun y hy => hm y (List.mem_cons_of_mem _ hy), by simpa using e⟩)
theorem comp_filter {dep : Hp → Prop} {f : PV → (Option PV → Hp → Prop) → Hp → Prop} {Q : PV → Hp → Prop} {H : Hp} {items : List PV} (g : PV → Option PV) (hdep : dep H) (hf : ∀ x ∈ items, ∀ K : Option PV → Hp → Prop, K (g x) H → f x K H)
    (h : ∀ a, H a = none → Q (.ref a) (upd H a (.list (items.filterMap g)))) : compW dep f items [] Q H := by
  refine comp_inv (fun l acc H' => H' = H ∧ (∀ x ∈ l, x ∈ items) ∧ acc ++ l.filterMap g = items.filterMap g) (fun _ _ _ h => h.1 ▸ hdep) (fun acc H' hI a ha => ?_) (fun K x l acc H' hI hK => ?_) items [] H ⟨rfl, fun _ h => h, by simp⟩
  · obtain ⟨rfl, _, e⟩ := hI
    simp only [List.filterMap_nil, List.append_nil] at e
    rw [e]; exact h a ha
  · obtain ⟨rfl, hm, e⟩ := hI
    refine hf x (hm x List.mem_cons_self) K (hK _ _ ⟨rfl, fun y hy => hm y (List.mem_cons_of_mem _ hy), ?_⟩)
    rw [← e, List.filterMap_cons]
    cases g x <;> simp

/-- more is followed, nothing is lost -/
noncomputable def Ext (H H' : Hp) : Prop := ∀ b o, H b = some o → H' b = some o
theorem Ext.refl (H : Hp) : Ext H H := fun _ _ e => e
theorem Ext.trans {H H' H'' : Hp} (x : Ext H H') (y : Ext H' H'') : Ext H H'' := fun b o e => y b o (x b o e)
theorem Ext.new {H : Hp} {a : Addr} (o : AO) (h : H a = none) : Ext H (upd H a o) := fun b ob e => by
  have hb : b ≠ a := fun e' => by subst e'; rw [h] at e; cases e
  rw [upd_ne _ _ hb]; exact e
theorem Ext.none {H H' : Hp} (x : Ext H H') {a : Addr} (h : H' a = none) : H a = none := by
  cases e : H a with
  | none => rfl
  | some o => rw [x a o e] at h; cases h
theorem upd_get {H : Hp} {a b : Addr} {o ob : AO} (h : H b = some ob) (ha : H a = none) : upd H a o b = some ob := Ext.new o ha b ob h
end
end Mine
end

/-! M12b -/
section
set_option autoImplicit false
set_option linter.all false
namespace Mine
open PySem PyProof.Rows

theorem size_le {x : Nat} (h : x ≤ 100000) : x ≤ sizeLine := by rw [sizeLine_eq]; omega

/-- a text by its letters -/
noncomputable def txt (cs : List Nat) : Str := ⟨cs.toArray⟩
theorem txt_cps (cs : List Nat) : (txt cs).cps.toList = cs := by simp [txt]
theorem txt_len (cs : List Nat) : (txt cs).length = cs.length := by simp [txt, Str.length]
theorem txt_of (s : Str) : txt s.cps.toList = s := by simp [txt]
theorem txt_app (a b : List Nat) : txt a ++ txt b = txt (a ++ b) := by
  apply Str.ext'; simp [txt, Str.cps_append]
theorem txt_inj {a b : List Nat} : txt a = txt b ↔ a = b := by
  constructor
  · intro h; have := congrArg (fun s => s.cps.toList) h; simpa [txt] using this
  · intro h; rw [h]
theorem txt_ok {cs : List Nat} (h : ∀ c ∈ cs, c < 0x110000) : PyData.strOk (txt cs) = true := by
  simp only [PyData.strOk, txt, List.all_toArray, List.all_eq_true, decide_eq_true_eq]
  exact h
theorem chr_txt (c : Nat) : chr c = .str (txt [c]) := rfl

theorem joinE : ∀ xs : List Str, Str.join ("" : Str) xs = txt (xs.flatMap fun x => x.cps.toList)
  | [] => rfl
  | [x] => by simp only [List.flatMap_cons, List.flatMap_nil, List.append_nil]; exact (txt_of x).symm
  | x :: y :: r => by
    show x ++ ("" : Str) ++ Str.join ("" : Str) (y :: r) = _
    rw [joinE (y :: r)]
    have : x ++ ("" : Str) = x := Str.append_empty x
    rw [this, List.flatMap_cons (x := x)]
    generalize (List.flatMap (fun x => x.cps.toList) (y :: r)) = z
    rw [← txt_app, txt_of]
theorem join_txt (xs : List Str) : Txt.join ("" : Str) xs = txt (xs.flatMap fun x => x.cps.toList) := by
  show Builtin.Str.glued _ _ = _
  rw [StrLaws.glued_eq_join, joinE]
theorem join_chars (cs : List Nat) : Txt.join ("" : Str) (cs.map fun c => txt [c]) = txt cs := by
  rw [join_txt]
  congr 1
  induction cs with
  | nil => rfl
  | cons c cs ih => simp only [List.map_cons, List.flatMap_cons, txt_cps, ih, List.cons_append, List.nil_append]
theorem joinOk_chars {cs : List Nat} (h : cs.length ≤ 100000) : JoinOk ("" : Str) (cs.map fun c => txt [c]) = true := by
  unfold JoinOk
  rw [StrLaws.joinTotal]
  have e : ((cs.map fun c => txt [c]).map (·.length)).sum = cs.length := by
    induction cs with
    | nil => rfl
    | cons c cs ih =>
      have := ih (by simp at h; omega)
      simp only [List.map_cons, List.sum_cons, txt_len, List.length_cons, List.length_nil] at this ⊢
      omega
  rw [e]
  have e2 : ("" : Str).length = 0 := rfl
  rw [e2]
  simp only [Nat.mul_zero, Nat.add_zero, Builtin.Str.tooLong, Bool.not_eq_true', decide_eq_false_iff_not]
  rw [sizeLine_eq]; omega

theorem idx_in {α : Type} {l : List α} {k : Int} (d : α) (h0 : 0 ≤ k) (h1 : k < l.length) : idx l k = some (l.getD k.toNat d) := by
  unfold idx
  rw [if_pos h0]
  have : k.toNat < l.length := by omega
  simp [List.getD, this]
theorem getD_mem {α : Type} {l : List α} {k : Nat} {d : α} (h : k < l.length) : l.getD k d ∈ l := by
  simp [List.getD, h]
theorem emod_in (x : Int) {m : Int} (h : 0 < m) : 0 ≤ x % m ∧ x % m < m := ⟨Int.emod_nonneg _ (by omega), Int.emod_lt_of_pos _ h⟩

theorem range_map (k : Int) {β : Type} (f : PV → β) : (rangeL 0 k).map f = (List.range k.toNat).map fun (j : Nat) => f (.int (j : Int)) := by
  unfold rangeL
  rw [List.map_map]
  simp only [Int.sub_zero]
  apply List.map_congr_left
  intro j _
  simp
theorem range_mem {k : Int} {p : PV} (h : p ∈ rangeL 0 k) : ∃ j : Nat, p = .int (j : Int) ∧ (j : Int) < k := by
  unfold rangeL at h
  simp only [List.mem_map, List.mem_range, Int.sub_zero] at h
  obtain ⟨j, h1, rfl⟩ := h
  exact ⟨j, by simp, by omega⟩
theorem range_len (k : Int) : (rangeL 0 k).length = k.toNat := by simp [rangeL]

theorem mul_r {x y : Int} (h : y.natAbs < 2 ^ 63) : IntMulOk x y := by
  refine IntMulOk.of_right ?_
  unfold Builtin.Int.intBits
  split
  · decide
  · rename_i h0
    have h0 : y.natAbs ≠ 0 := by simp at h0; omega
    have := (Nat.log2_lt h0).mpr h
    omega
theorem mul_l {x y : Int} (h : x.natAbs < 2 ^ 63) : IntMulOk x y := by
  refine IntMulOk.of_left ?_
  unfold Builtin.Int.intBits
  split
  · decide
  · rename_i h0
    have h0 : x.natAbs ≠ 0 := by simp at h0; omega
    have := (Nat.log2_lt h0).mpr h
    omega

noncomputable def cellAt (ns : List Int) (k : Int) : Int := ns.getD k.toNat 0
/-- a letter by its place -/
noncomputable def letter (x : Int) : Nat := 97 + (x % 26).toNat
theorem letters_get {x : Int} : idx ("abcdefghijklmnopqrstuvwxyz" : Str).cps.toList (x % 26) = some (letter x) := by
  have ⟨h0, h1⟩ := emod_in x (m := 26) (by decide)
  unfold idx letter
  rw [if_pos h0]
  have h2 : (x % 26).toNat < 26 := by omega
  generalize (x % 26).toNat = k at h2 ⊢
  have : ∀ k < 26, ("abcdefghijklmnopqrstuvwxyz" : Str).cps.toList[k]? = some (97 + k) := by decide +kernel
  exact this k h2
theorem letter_lt (x : Int) : 97 ≤ letter x ∧ letter x < 123 := by
  have ⟨h0, h1⟩ := emod_in x (m := 26) (by decide)
  unfold letter; omega
end Mine
end

/-! M12c -/
section
set_option autoImplicit false
set_option linter.all false
namespace Mine
open PySem PyProof.Rows

theorem idx_chr {l : List Nat} {k : Int} (h0 : 0 ≤ k) (h1 : k < l.length) : idx (l.map chr) k = some (chr (l.getD k.toNat 0)) := by
  unfold idx
  rw [if_pos h0]
  have : k.toNat < l.length := by omega
  simp [List.getD, this]
theorem idx_mem {α : Type} {l : List α} {k : Int} (h0 : 0 ≤ k) (h1 : k < l.length) : ∃ p ∈ l, idx l k = some p := by
  unfold idx
  rw [if_pos h0]
  have : k.toNat < l.length := by omega
  exact ⟨l[k.toNat], List.getElem_mem _, by simp [this]⟩
theorem Ext.upd {H H' : Hp} (x : Ext H H') {a : Addr} {o : AO} (h : H a = Option.none) : Ext H (Mine.upd H' a o) := fun b ob e => by
  have hb : b ≠ a := fun e' => by subst e'; rw [h] at e; cases e
  rw [upd_ne _ _ hb]; exact x b ob e
theorem ne_addr {H : Hp} {a b : Addr} {o : AO} (ha : H a = some o) (hb : H b = none) : a ≠ b := fun e => by subst e; rw [ha] at hb; cases hb

section
variable {cx : Cx} {n : Nat}
theorem cut_k {σ : List (Option PV)} {H : Hp} {b : Bool} {A B : MStmts} {K : Fl → List (Option PV) → Hp → Prop} {E : Addr → List (Option PV) → Hp → Prop} (J : List (Option PV) → Hp → Prop) (hk : ∀ σ H, J σ H → K .next σ H)
    (h : ∀ K' : Fl → List (Option PV) → Hp → Prop, (∀ σ H, J σ H → K' .next σ H) → if b = true then wSs cx n A K' E σ H else wSs cx n B K' E σ H) : if b = true then wSs cx n A K E σ H else wSs cx n B K E σ H := h K hk
end

/-- letters from a to z -/
noncomputable def isL (c : Nat) : Prop := 97 ≤ c ∧ c < 123
theorem letter_isL (x : Int) : isL (letter x) := letter_lt x
theorem isL.lt {c : Nat} (h : isL c) : c < 0x110000 := by unfold isL at h; omega
theorem txt_isL {cs : List Nat} (h : ∀ c ∈ cs, isL c) : PyData.strOk (txt cs) = true := txt_ok fun c hc => (h c hc).lt

theorem chars_txt (cs : List Nat) : chars (txt cs) = cs.map chr := by simp [chars, txt]
theorem chr_inj {c d : Nat} : chr c = chr d ↔ c = d := by simp [chr]
theorem enumL_mem {l : List PV} {k : Nat} {x : PV} (h : x ∈ enumL k l) : ∃ j y, x = .tup [.int (j : Int), y] ∧ y ∈ l := by
  induction l generalizing k with
  | nil => simp [enumL] at h
  | cons y l ih =>
    simp only [enumL, List.mem_cons] at h
    rcases h with rfl | h
    · exact ⟨k, y, rfl, List.mem_cons_self⟩
    · obtain ⟨j, z, e, hz⟩ := ih h
      exact ⟨j, z, e, List.mem_cons_of_mem _ hz⟩
theorem enumL_len (l : List PV) (k : Nat) : (enumL k l).length = l.length := by
  induction l generalizing k with
  | nil => rfl
  | cons y l ih => simp [enumL, ih]

noncomputable def mixed (x k : Int) : Int := (x + 7919 * k * k + 104729 * k) * 48271 % 2147483647 * 69621 % 2147483629
noncomputable def signs (x : Int) : List Nat := [letter x, letter (x + 1 + x / 26 % 12), letter (x + 13 + x / 312 % 12)]
theorem signs_isL (x : Int) : ∀ c ∈ signs x, isL c := by
  intro c hc
  simp only [signs, List.mem_cons, List.not_mem_nil, or_false] at hc
  rcases hc with rfl | rfl | rfl <;> exact letter_isL _

/-- a rule -/
structure Rl where
  q : Int
  c : Nat
  q' : Int
  p : List Nat
noncomputable def Rl.v (r : Rl) : PV := .tup [.int r.q, chr r.c, .int r.q', .str (txt r.p)]
structure Rl.ok (m : Int) (r : Rl) : Prop where
  q : 0 ≤ r.q ∧ r.q < m
  c : isL r.c
  q' : 0 ≤ r.q' ∧ r.q' < m
  p : ∀ c ∈ r.p, isL c
  len : r.p.length ≤ 2
theorem Rl.ok.dat {m : Int} {r : Rl} (h : r.ok m) : Dat 1 r.v := by
  simp only [Rl.v, Dat, List.mem_cons, List.not_mem_nil, or_false]
  rintro x (rfl | rfl | rfl | rfl)
  · simp only [Dat]
  · simp only [Dat, chr_txt]; exact txt_isL (by simpa using h.c)
  · simp only [Dat]
  · simp only [Dat]; exact txt_isL h.p
noncomputable def spotP (q : Int) (p : Str) : PV := .tup [.int q, .str p]
end Mine
namespace Mine
open PySem PyProof.Rows
theorem y_cut {cx : Cx} {n : Nat} {s : MStmt} {σ : List (Option PV)} {H : Hp} {Q : Fl → List (Option PV) → Hp → Prop} {E : Addr → List (Option PV) → Hp → Prop} (J : List (Option PV) → Hp → Prop) (hk : ∀ σ H, J σ H → Q .next σ H)
    (h : ∀ Q' : Fl → List (Option PV) → Hp → Prop, (∀ σ H, J σ H → Q' .next σ H) → wS cx n s Q' E σ H) : wS cx n s Q E σ H := h Q hk
theorem eqF {r : Bool} {P : Prop} (h : r = true ↔ ¬ P) (hp : P) : r = false := by
  cases r
  · rfl
  · exact absurd hp (h.mp rfl)
theorem eqT {r : Bool} {P : Prop} (h : r = true ↔ P) (hp : P) : r = true := h.mpr hp
end Mine
namespace Mine
open PySem PyProof.Rows
section
variable {cx : Cx} {n : Nat} {σ : List (Option PV)} {Q : PV → Hp → Prop} {E : Addr → Hp → Prop} {H : Hp}
/-- the heap with one more object -/
noncomputable def New (H : Hp) (a : Addr) (o : AO) (H' : Hp) : Prop := H a = none ∧ H' = upd H a o
theorem New.ext {H H' : Hp} {a : Addr} {o : AO} (h : New H a o H') : Ext H H' := h.2 ▸ Ext.new o h.1
theorem New.get {H H' : Hp} {a : Addr} {o : AO} (h : New H a o H') : H' a = some o := h.2 ▸ upd_self _ _ _
theorem x_listN {es : MExprs} (h : wEs cx n σ es (fun ps H₁ => ps.length ≤ sizeLine ∧ ∀ a H', New H₁ a (.list ps) H' → Q (.ref a) H') E H) : wE cx n σ (.list es) Q E H := by
  refine x_list ?_
  have : (fun (ps : List PV) (H₁ : Hp) => ps.length ≤ sizeLine ∧ ∀ a, H₁ a = none → Q (.ref a) (upd H₁ a (.list ps))) = (fun ps H₁ => ps.length ≤ sizeLine ∧ ∀ a H', New H₁ a (.list ps) H' → Q (.ref a) H') := by
    funext ps H₁
    apply propext
    constructor
    · rintro ⟨h1, h2⟩; exact ⟨h1, fun a H' x => x.2 ▸ h2 a x.1⟩
    · rintro ⟨h1, h2⟩; exact ⟨h1, fun a x => h2 a _ ⟨x, rfl⟩⟩
  rw [this]; exact h
theorem x_dict0N (h : ∀ a H', New H a .dict H' → Q (.ref a) H') : wE cx n σ .dict0 Q E H := x_dict0 fun a ha => h a _ ⟨ha, rfl⟩
theorem x_listOfN {e : MExpr} (h : wE cx n σ e (fun v H₁ => lotA v (fun items => items.length ≤ sizeLine ∧ ∀ a H', New H₁ a (.list items) H' → Q (.ref a) H') H₁) E H) : wE cx n σ (.listOf e) Q E H := by
  refine x_listOf ?_
  have : ∀ H₁ : Hp, (fun (ps : List PV) => ps.length ≤ sizeLine ∧ ∀ a, H₁ a = none → Q (.ref a) (upd H₁ a (.list ps))) = (fun ps => ps.length ≤ sizeLine ∧ ∀ a H', New H₁ a (.list ps) H' → Q (.ref a) H') := by
    intro H₁
    funext ps
    apply propext
    constructor
    · rintro ⟨h1, h2⟩; exact ⟨h1, fun a H' x => x.2 ▸ h2 a x.1⟩
    · rintro ⟨h1, h2⟩; exact ⟨h1, fun a x => h2 a _ ⟨x, rfl⟩⟩
  simp only [this]; exact h
theorem comp_mapN {dep : Hp → Prop} {f : PV → (Option PV → Hp → Prop) → Hp → Prop} {items : List PV} (g : PV → PV) (hdep : dep H) (hf : ∀ x ∈ items, ∀ K : Option PV → Hp → Prop, K (some (g x)) H → f x K H)
    (h : ∀ a H', New H a (.list (items.map g)) H' → Q (.ref a) H') : compW dep f items [] Q H := comp_map g hdep hf fun a ha => h a _ ⟨ha, rfl⟩
theorem comp_filterN {dep : Hp → Prop} {f : PV → (Option PV → Hp → Prop) → Hp → Prop} {items : List PV} (g : PV → Option PV) (hdep : dep H) (hf : ∀ x ∈ items, ∀ K : Option PV → Hp → Prop, K (g x) H → f x K H)
    (h : ∀ a H', New H a (.list (items.filterMap g)) H' → Q (.ref a) H') : compW dep f items [] Q H := comp_filter g hdep hf fun a ha => h a _ ⟨ha, rfl⟩
/-- the heap with one object changed -/
noncomputable def Upd (H : Hp) (a : Addr) (o : AO) (H' : Hp) : Prop := H' = upd H a o
theorem Upd.get {H H' : Hp} {a : Addr} {o : AO} (h : Upd H a o H') : H' a = some o := by rw [h]; exact upd_self _ _ _
theorem Upd.ne {H H' : Hp} {a b : Addr} {o : AO} (h : Upd H a o H') (hb : b ≠ a) : H' b = H b := by rw [h, upd_ne _ _ hb]
theorem Upd.ext {H0 H H' : Hp} {a : Addr} {o : AO} (h : Upd H a o H') (x : Ext H0 H) (ha : H0 a = none) : Ext H0 H' := by rw [h]; exact x.upd ha
theorem append_N {a : Addr} {l : List PV} {p : PV} (hl : H a = some (.list l)) (hz : l.length ≤ 100000) (h : ∀ H', Upd H a (.list (l ++ [p])) H' → Q .none H') : CallW cx n (.bi "list.append") [.ref a, p] Q E H := append_r hl (size_le hz) (h _ rfl)
theorem clear_N {a : Addr} {l : List PV} (hl : H a = some (.list l)) (hz : l.length ≤ 100000) (h : ∀ H', Upd H a (.list []) H' → Q .none H') : CallW cx n (.bi "list.clear") [.ref a] Q E H := clear_r hl (size_le hz) (h _ rfl)
end
end Mine
namespace Mine
theorem z_ret {Q : PV → Hp → Prop} {p : PV} {σ : List (Option PV)} {H : Hp} (h : Q p H) : retQ Q (.ret p) σ H := h
end Mine
end

local macro_rules
  | `(tactic| walk_at "g0") => `(tactic| first
    | ((with_reducible refine' Mine.x_var ?gh ?_); (case gh => rfl))
    | (with_reducible first
      | refine Mine.x_none ?_ | refine Mine.x_bool ?_ | refine Mine.x_int ?_ | refine Mine.x_str ?_ | refine Mine.x_glob ?_ | refine Mine.x_gconst ?_ | refine Mine.x_and ?_ | refine Mine.x_or ?_
      | refine Mine.x_not ?_ | refine Mine.x_neg ?_ | refine Mine.x_bin ?_ | refine Mine.x_cmp ?_ | refine Mine.x_cmp2 ?_ | refine Mine.x_call ?_ | refine Mine.x_meth ?_ | refine Mine.x_sub ?_
      | refine Mine.x_slTo ?_ | refine Mine.x_slFrom ?_ | refine Mine.x_listN ?_ | refine Mine.x_tup ?_ | refine Mine.x_dict0N ?_ | refine Mine.x_dict1 ?_ | refine Mine.x_listOfN ?_ | refine Mine.x_comp ?_
      | refine Mine.x_compIf ?_ | refine Mine.x_nil ?_ | refine Mine.x_cons ?_ | refine Mine.x_iex ?_ | refine Mine.x_ienum ?_ | refine Mine.x_irng ?_ | refine Mine.x_asB ?_ | refine Mine.x_asI ?_
      | refine Mine.y_nil ?_ | refine Mine.y_cons ?_ | refine Mine.y_expr ?_ | refine Mine.y_asg ?_ | refine Mine.y_ret ?_ | refine Mine.b_add ?_ | refine Mine.b_sub ?_ | refine Mine.k_lt ?_
      | refine Mine.k_le ?_ | refine Mine.k_gt ?_ | refine Mine.k_ge ?_ | refine Mine.k_eq ?_ | refine Mine.k_ne ?_ | refine Mine.k_seq ?_ | refine Mine.k_sne ?_ | refine Mine.k_isnb ?_
      | refine Mine.k_is_n ?_ | refine Mine.k_isn_n ?_ | refine Mine.m_join ?_ | refine Mine.z_ret ?_)
    | ((with_reducible refine' Mine.y_bind ?gh ?_); (case gh => rfl)) | ((with_reducible refine' Mine.s_tup ?gh ?_ ?gk); (case gh => rfl); (case gk => decide)) | ((with_reducible refine' Mine.b_div ?gh ?_); (case gh => decide)) | ((with_reducible refine' Mine.b_mod ?gh ?_); (case gh => decide)))
local macro_rules
  | `(tactic| walk_at "gx") => `(tactic| walk_at "g0")
local macro_rules
  | `(tactic| walk_at "go") => `(tactic| first | walk_at "g0" | (with_reducible refine Mine.y_ite ?_) | (with_reducible refine Mine.y_for ?_))

/-! CC -/
section
open PySem PyProof.Rows Mine
set_option maxRecDepth 100000
set_option maxHeartbeats 400000
set_option linter.all false
namespace Cm
noncomputable def f__law_cell_at : MFun := ⟨[("_law_script" : Str), ("_law_k" : Str)], 2,
    (.cons (.ite (.cmp .Lt (.var 1) (.call (.glob ("len" : Str)) (.cons (.var 0) .nil)))
    (.cons (.ret (.sub (.var 0) (.var 1)))
    .nil)
    .nil)
    (.cons (.ret (.int 0))
    .nil))⟩
noncomputable def f__law_signs : MFun := ⟨[("_law_cell" : Str), ("_law_letters" : Str), ("_law_places" : Str)], 1,
    (.cons (.asg (.var 1) (.str ("abcdefghijklmnopqrstuvwxyz" : Str)))
    (.cons (.asg (.var 2) (.list (.cons (.var 0) (.cons (.bin .Add (.bin .Add (.var 0) (.int 1)) (.bin .Mod (.bin .FloorDiv (.var 0) (.int 26)) (.int 12))) (.cons (.bin .Add (.bin .Add (.var 0) (.int 13)) (.bin .Mod (.bin .FloorDiv (.var 0) (.int 312)) (.int 12))) .nil)))))
    (.cons (.ret (.comp (.var 3) (.ex (.var 2)) (.sub (.var 1) (.bin .Mod (.var 3) (.int 26)))))
    .nil)))⟩
noncomputable def f__law_mixed : MFun := ⟨[("_law_cell" : Str), ("_law_k" : Str)], 2,
    (.cons (.ret (.bin .Mod (.bin .Mult (.bin .Mod (.bin .Mult (.bin .Add (.bin .Add (.var 0) (.bin .Mult (.bin .Mult (.int 7919) (.var 1)) (.var 1))) (.bin .Mult (.int 104729) (.var 1))) (.int 48271)) (.int 2147483647)) (.int 69621)) (.int 2147483629)))
    .nil)⟩
noncomputable def f__law_rule : MFun := ⟨[("_law_cell" : Str), ("_law_many" : Str), ("_law_signs_here" : Str), ("_law_some" : Str), ("_law_size" : Str), ("_law_push" : Str)], 3,
    (.cons (.asg (.var 3) (.list (.cons (.sub (.var 2) (.int 0)) (.cons (.sub (.var 2) (.int 0)) (.cons (.sub (.var 2) (.int 1)) (.cons (.sub (.var 2) (.int 1)) (.cons (.sub (.var 2) (.int 2)) .nil)))))))
    (.cons (.asg (.var 4) (.sub (.list (.cons (.int 0) (.cons (.int 0) (.cons (.int 1) (.cons (.int 1) (.cons (.int 1) (.cons (.int 2) (.cons (.int 2) (.cons (.int 2) .nil))))))))) (.bin .Mod (.bin .FloorDiv (.var 0) (.int 125)) (.int 8))))
    (.cons (.asg (.var 5) (.meth (.str ("" : Str)) .join (.cons (.comp (.var 6) (.rng (.var 4)) (.sub (.var 3) (.bin .Mod (.bin .FloorDiv (.var 0) (.bin .Add (.int 1000) (.bin .Mult (.int 4000) (.var 6)))) (.int 5)))) .nil)))
    (.cons (.ret (.tup (.cons (.bin .Mod (.var 0) (.var 1)) (.cons (.sub (.var 3) (.bin .Mod (.bin .FloorDiv (.var 0) (.int 5)) (.int 5))) (.cons (.bin .Mod (.bin .FloorDiv (.var 0) (.int 25)) (.var 1)) (.cons (.var 5) .nil))))))
    .nil))))⟩

variable {cx : Cx} {n : Nat} {Q : PV → Hp → Prop} {E : Addr → Hp → Prop} {H : Hp}
theorem c_cell_at (ok : CxOk cx) (sd : Std cx) (fs : ∃ a fd body, FunOk cx "_law_cell_at" a fd body f__law_cell_at) {a : Addr} {o : Obj} {ns : List Int} {k : Int} (hl : H a = some (.froz o (ns.map .int))) (hn : ns.length ≤ 63) (hk : 0 ≤ k) (h : Q (.int (cellAt ns k)) H) :
    CallW cx (n + 1) (.g "_law_cell_at") [.ref a, .int k] Q E H := by
  obtain ⟨_, fd, body, hf⟩ := fs
  refine call_fun ok hf rfl ?_
  simp only [f__law_cell_at]
  repeat walk_at "go"
  refine len_r sd ⟨ns.length, by simp [lenA, hl], by omega, ?_⟩
  repeat walk_at "go"
  refine x_if (fun hb => ?_) (fun hb => ?_)
  · simp only [decide_eq_true_eq] at hb
    repeat walk_at "go"
    refine s_froz hl (p := .int (cellAt ns k)) ?_ (by omega) h
    have hlt : k.toNat < ns.length := by omega
    simp [idx, hk, cellAt, List.getD, hlt]
  · simp only [decide_eq_false_iff_not] at hb
    repeat walk_at "go"
    have : cellAt ns k = 0 := by
      have : ns.length ≤ k.toNat := by omega
      simp [cellAt, List.getD, List.getElem?_eq_none this]
    rw [this] at h
    exact h

theorem c_mixed (ok : CxOk cx) (fs : ∃ a fd body, FunOk cx "_law_mixed" a fd body f__law_mixed) {x k : Int} (hk : 0 ≤ k ∧ k ≤ 1000) (h : Q (.int (mixed x k)) H) : CallW cx (n + 1) (.g "_law_mixed") [.int x, .int k] Q E H := by
  obtain ⟨_, fd, body, hf⟩ := fs
  refine call_fun ok hf rfl ?_
  simp only [f__law_mixed]
  repeat walk_at "go"
  refine b_mul (mul_l (by decide)) ?_
  repeat walk_at "go"
  refine b_mul (mul_r (by omega)) ?_
  repeat walk_at "go"
  refine b_mul (mul_l (by decide)) ?_
  repeat walk_at "go"
  refine b_mul (mul_r (by decide)) ?_
  repeat walk_at "go"
  refine b_mul (mul_r (by decide)) ?_
  repeat walk_at "go"
  exact h

theorem c_signs (ok : CxOk cx) (fs : ∃ a fd body, FunOk cx "_law_signs" a fd body f__law_signs) {x : Int} (h : ∀ H' a, Ext H H' → H a = none → H' a = some (.list ((signs x).map chr)) → Q (.ref a) H') : CallW cx (n + 1) (.g "_law_signs") [.int x] Q E H := by
  obtain ⟨_, fd, body, hf⟩ := fs
  refine call_fun ok hf rfl ?_
  simp only [f__law_signs]
  repeat walk_at "go"
  refine ⟨size_le (by simp), fun a H1 n1 => ?_⟩
  repeat walk_at "go"
  refine i_list n1.get ⟨size_le (by simp), comp_mapN (fun p => match p with | .int y => chr (letter y) | _ => .none) n1.get (fun y hy K hK => ?_) fun b H2 n2 => ?_⟩
  · simp only [List.mem_cons, List.not_mem_nil, or_false] at hy
    obtain ⟨z, rfl⟩ : ∃ z, y = .int z := by rcases hy with rfl | rfl | rfl <;> exact ⟨_, rfl⟩
    refine ⟨_, rfl, ?_⟩
    repeat walk_at "go"
    have := emod_in z (m := 26) (by decide)
    exact s_str letters_get (by omega) hK
  · exact h _ b (n1.ext.trans n2.ext) (n1.ext.none n2.1) n2.get

theorem c_rule (ok : CxOk cx) (fs : ∃ a fd body, FunOk cx "_law_rule" a fd body f__law_rule) {b : Addr} {cs : List Nat} {x m : Int} (hl : H b = some (.list (cs.map chr))) (h3 : cs.length = 3) (hL : ∀ c ∈ cs, isL c) (hm : 0 < m ∧ m ≤ 5)
    (h : ∀ H' (r : Rl), Ext H H' → r.ok m → Q r.v H') : CallW cx (n + 1) (.g "_law_rule") [.int x, .int m, .ref b] Q E H := by
  obtain ⟨_, fd, body, hf⟩ := fs
  obtain ⟨c0, c1, c2, rfl⟩ : ∃ c0 c1 c2, cs = [c0, c1, c2] := by
    match cs, h3 with
    | [c0, c1, c2], _ => exact ⟨c0, c1, c2, rfl⟩
  have h5 : ∀ c ∈ [c0, c0, c1, c1, c2], isL c := by
    intro c hc
    simp only [List.mem_cons, List.not_mem_nil, or_false] at hc
    exact hL c (by simp; rcases hc with h | h | h | h | h <;> simp [h])
  refine call_fun ok hf rfl ?_
  simp only [f__law_rule]
  repeat walk_at "go"
  refine s_list hl rfl (by decide) ?_
  repeat walk_at "go"
  refine s_list hl rfl (by decide) ?_
  repeat walk_at "go"
  refine s_list hl rfl (by decide) ?_
  repeat walk_at "go"
  refine s_list hl rfl (by decide) ?_
  repeat walk_at "go"
  refine s_list hl rfl (by decide) ?_
  repeat walk_at "go"
  refine ⟨size_le (by simp), fun a H1 n1 => ?_⟩
  have x1 := n1.ext
  have ha1 : H1 a = some (AO.list ([c0, c0, c1, c1, c2].map chr)) := n1.get
  generalize hsm : [c0, c0, c1, c1, c2] = sm at ha1 h5
  have lsm : sm.length = 5 := by rw [← hsm]; rfl
  clear hsm
  repeat walk_at "go"
  refine ⟨size_le (by simp), fun a' H2 n2 => ?_⟩
  repeat walk_at "go"
  have hz := emod_in (x / 125) (m := 8) (by decide)
  obtain ⟨p, hp, e⟩ := idx_mem (l := [PV.int 0, .int 0, .int 1, .int 1, .int 1, .int 2, .int 2, .int 2]) hz.1 (by simpa using hz.2)
  obtain ⟨z, rfl, hz0, hz2⟩ : ∃ z : Int, p = .int z ∧ 0 ≤ z ∧ z ≤ 2 := by
    simp only [List.mem_cons, List.not_mem_nil, or_false] at hp
    rcases hp with rfl | rfl | rfl | rfl | rfl | rfl | rfl | rfl <;> exact ⟨_, rfl, by decide, by decide⟩
  refine s_list n2.get e (by omega) ?_
  have x2 : Ext H H2 := x1.trans n2.ext
  have ha2 := n2.ext _ _ ha1
  repeat walk_at "go"
  refine ⟨by omega, size_le (by rw [range_len]; omega), comp_mapN (fun p => match p with | .int y => chr (sm.getD (x / (1000 + 4000 * y) % 5).toNat 0) | _ => .none) trivial (fun y hy K hK => ?_) fun d H3 n3 => ?_⟩
  · obtain ⟨j, rfl, hj⟩ := range_mem hy
    refine ⟨_, rfl, ?_⟩
    repeat walk_at "go"
    refine b_mul (mul_l (by decide)) ?_
    repeat walk_at "go"
    refine b_div (by omega) ?_
    repeat walk_at "go"
    have hi := emod_in (x / (1000 + 4000 * (j : Int))) (m := 5) (by decide)
    exact s_list ha2 (idx_chr hi.1 (by omega)) (by omega) hK
  · have e6 : (rangeL 0 z).map (fun p => match p with | .int y => chr (sm.getD (x / (1000 + 4000 * y) % 5).toNat 0) | _ => .none) = (((List.range z.toNat).map fun (j : Nat) => sm.getD (x / (1000 + 4000 * (j : Int)) % 5).toNat 0).map fun c => txt [c]).map PV.str := by
      rw [range_map, List.map_map, List.map_map]; rfl
    rw [e6] at n3
    generalize hpu : ((List.range z.toNat).map fun (j : Nat) => sm.getD (x / (1000 + 4000 * (j : Int)) % 5).toNat 0) = pu at n3
    have lpu : pu.length ≤ 2 := by rw [← hpu]; simp; omega
    have okpu : ∀ c ∈ pu, isL c := by
      intro c hc
      rw [← hpu] at hc
      obtain ⟨j, _, rfl⟩ := List.mem_map.mp hc
      have hi := emod_in (x / (1000 + 4000 * (j : Int))) (m := 5) (by decide)
      exact h5 _ (getD_mem (by omega))
    refine join_r n3.get (joinOk_chars (by omega)) ?_
    rw [join_chars]
    have x3 : Ext H H3 := x2.trans n3.ext
    have ha3 := n3.ext _ _ ha2
    repeat walk_at "go"
    refine b_mod hm.1 ?_
    repeat walk_at "go"
    have hi := emod_in (x / 5) (m := 5) (by decide)
    refine s_list ha3 (idx_chr hi.1 (by omega)) (by omega) ?_
    repeat walk_at "go"
    refine b_mod hm.1 ?_
    repeat walk_at "go"
    refine ⟨size_le (by simp), ?_⟩
    exact h H3 ⟨x % m, sm.getD (x / 5 % 5).toNat 0, x / 25 % m, pu⟩ x3 ⟨emod_in _ hm.1, h5 _ (getD_mem (by omega)), emod_in _ hm.1, okpu, lpu⟩
end Cm
end

/-! J02f -/
section
open PySem PyProof.Rows Mine Cm
set_option maxRecDepth 100000
set_option maxHeartbeats 8000000
namespace Law02
noncomputable def gl : List Str := [("len" : Str), ("isinstance" : Str), ("list" : Str), ("range" : Str), ("enumerate" : Str), ("int" : Str), ("bool" : Str), ("str" : Str), ("tuple" : Str), ("after" : Str), ("nexts" : Str), ("_law_cell_at" : Str), ("_law_signs" : Str), ("_law_mixed" : Str), ("_law_rule" : Str), ("_law_step" : Str), ("_law_is_spot" : Str), ("_law_nexts_good" : Str), ("law" : Str)]
noncomputable def ks : List (Str × PV) := []
noncomputable def f_after : MFun := ⟨[("rule" : Str), ("spot" : Str)], 2,
    (.cons (.ite (.or (.cmp .NotEq (.sub (.var 1) (.int 0)) (.sub (.var 0) (.int 0))) (.cmp .NotEq (.sliceTo (.sub (.var 1) (.int 1)) (.int 1)) (.sub (.var 0) (.int 1))))
    (.cons (.ret .none)
    .nil)
    .nil)
    (.cons (.ret (.tup (.cons (.sub (.var 0) (.int 2)) (.cons (.bin .Add (.sub (.var 0) (.int 3)) (.sliceFrom (.sub (.var 1) (.int 1)) (.int 1))) .nil))))
    .nil))⟩
noncomputable def f_nexts : MFun := ⟨[("rules" : Str), ("spot" : Str), ("found" : Str), ("number" : Str), ("rule" : Str), ("other" : Str)], 2,
    (.cons (.asg (.var 2) (.list .nil))
    (.cons (.for (.two 3 4) (.enum (.var 0))
    (.cons (.asg (.var 5) (.call (.glob ("after" : Str)) (.cons (.var 4) (.cons (.var 1) .nil))))
    (.cons (.ite (.cmp .IsNot (.var 5) .none)
    (.cons (.expr (.meth (.var 2) .append (.cons (.tup (.cons (.var 3) (.cons (.var 5) .nil))) .nil)))
    .nil)
    .nil)
    .nil)))
    (.cons (.ret (.var 2))
    .nil)))⟩
noncomputable def f__law_step : MFun := ⟨[("_law_rule_here" : Str), ("_law_spot" : Str)], 2,
    (.cons (.ite (.or (.cmp .Eq (.sub (.var 1) (.int 1)) (.str ("" : Str))) (.or (.cmp .NotEq (.sub (.var 0) (.int 0)) (.sub (.var 1) (.int 0))) (.cmp .NotEq (.sub (.var 0) (.int 1)) (.sub (.sub (.var 1) (.int 1)) (.int 0)))))
    (.cons (.ret .none)
    .nil)
    .nil)
    (.cons (.ret (.tup (.cons (.sub (.var 0) (.int 2)) (.cons (.bin .Add (.sub (.var 0) (.int 3)) (.sliceFrom (.sub (.var 1) (.int 1)) (.int 1))) .nil))))
    .nil))⟩
noncomputable def f__law_is_spot : MFun := ⟨[("_law_found" : Str)], 1,
    (.cons (.ite (.or (.not (.call (.glob ("isinstance" : Str)) (.cons (.var 0) (.cons (.glob ("tuple" : Str)) .nil)))) (.cmp .NotEq (.call (.glob ("len" : Str)) (.cons (.var 0) .nil)) (.int 2)))
    (.cons (.ret (.bool false))
    .nil)
    .nil)
    (.cons (.ret (.and (.call (.glob ("isinstance" : Str)) (.cons (.sub (.var 0) (.int 0)) (.cons (.glob ("int" : Str)) .nil))) (.and (.not (.call (.glob ("isinstance" : Str)) (.cons (.sub (.var 0) (.int 0)) (.cons (.glob ("bool" : Str)) .nil)))) (.call (.glob ("isinstance" : Str)) (.cons (.sub (.var 0) (.int 1)) (.cons (.glob ("str" : Str)) .nil))))))
    .nil))⟩
noncomputable def f__law_nexts_good : MFun := ⟨[("_law_found" : Str), ("_law_due" : Str), ("_law_pair" : Str)], 2,
    (.cons (.ite (.or (.not (.call (.glob ("isinstance" : Str)) (.cons (.var 0) (.cons (.glob ("list" : Str)) .nil)))) (.cmp .NotEq (.var 0) (.var 1)))
    (.cons (.ret (.bool false))
    .nil)
    .nil)
    (.cons (.for (.var 2) (.ex (.var 0))
    (.cons (.ite (.or (.not (.call (.glob ("isinstance" : Str)) (.cons (.var 2) (.cons (.glob ("tuple" : Str)) .nil)))) (.or (.call (.glob ("isinstance" : Str)) (.cons (.sub (.var 2) (.int 0)) (.cons (.glob ("bool" : Str)) .nil))) (.not (.call (.glob ("_law_is_spot" : Str)) (.cons (.sub (.var 2) (.int 1)) .nil)))))
    (.cons (.ret (.bool false))
    .nil)
    .nil)
    .nil))
    (.cons (.ret (.bool true))
    .nil)))⟩
noncomputable def f_law : MFun := ⟨[("_law_script" : Str), ("_law_many" : Str), ("_law_signs_here" : Str), ("_law_rules" : Str), ("_law_k" : Str), ("_law_cell" : Str), ("_law_size" : Str), ("_law_pile" : Str), ("_law_spot" : Str), ("_law_rule_here" : Str), ("_law_due" : Str), ("_law_number" : Str), ("_law_later" : Str), ("_law_found" : Str), ("_law_handed" : Str)], 1,
    (.cons (.asg (.var 1) (.bin .Add (.int 1) (.bin .Mod (.call (.glob ("_law_cell_at" : Str)) (.cons (.var 0) (.cons (.int 0) .nil))) (.int 5))))
    (.cons (.asg (.var 2) (.call (.glob ("_law_signs" : Str)) (.cons (.call (.glob ("_law_cell_at" : Str)) (.cons (.var 0) (.cons (.int 1) .nil))) .nil)))
    (.cons (.asg (.var 3) (.list .nil))
    (.cons (.for (.var 4) (.rng (.bin .Mod (.call (.glob ("_law_cell_at" : Str)) (.cons (.var 0) (.cons (.int 2) .nil))) (.int 13)))
    (.cons (.expr (.meth (.var 3) .append (.cons (.call (.glob ("_law_rule" : Str)) (.cons (.call (.glob ("_law_mixed" : Str)) (.cons (.call (.glob ("_law_cell_at" : Str)) (.cons (.var 0) (.cons (.bin .Add (.int 6) (.var 4)) .nil))) (.cons (.var 4) .nil))) (.cons (.var 1) (.cons (.var 2) .nil)))) .nil)))
    .nil))
    (.cons (.asg (.var 5) (.call (.glob ("_law_cell_at" : Str)) (.cons (.var 0) (.cons (.int 3) .nil))))
    (.cons (.asg (.var 6) (.sub (.list (.cons (.bin .Mod (.bin .FloorDiv (.var 5) (.int 4)) (.int 9)) (.cons (.bin .Mod (.bin .FloorDiv (.var 5) (.int 4)) (.int 9)) (.cons (.bin .Mod (.bin .FloorDiv (.var 5) (.int 4)) (.int 3)) (.cons (.bin .Mod (.bin .FloorDiv (.var 5) (.int 4)) (.int 91)) .nil))))) (.bin .Mod (.var 5) (.int 4))))
    (.cons (.asg (.var 7) (.meth (.str ("" : Str)) .join (.cons (.comp (.var 15) (.rng (.var 6)) (.sub (.var 2) (.bin .Mod (.bin .FloorDiv (.call (.glob ("_law_mixed" : Str)) (.cons (.call (.glob ("_law_cell_at" : Str)) (.cons (.var 0) (.cons (.int 4) .nil))) (.cons (.var 15) .nil))) (.int 7)) (.int 3)))) .nil)))
    (.cons (.asg (.var 8) (.tup (.cons (.bin .Mod (.call (.glob ("_law_cell_at" : Str)) (.cons (.var 0) (.cons (.int 5) .nil))) (.var 1)) (.cons (.var 7) .nil))))
    (.cons (.ite (.and (.cmp .NotEq (.var 3) (.list .nil)) (.cmp .Gt (.bin .Mod (.bin .FloorDiv (.call (.glob ("_law_cell_at" : Str)) (.cons (.var 0) (.cons (.int 5) .nil))) (.int 5)) (.int 4)) (.int 0)))
    (.cons (.asg (.var 9) (.sub (.var 3) (.bin .Mod (.bin .FloorDiv (.call (.glob ("_law_cell_at" : Str)) (.cons (.var 0) (.cons (.int 5) .nil))) (.int 20)) (.call (.glob ("len" : Str)) (.cons (.var 3) .nil)))))
    (.cons (.asg (.var 8) (.tup (.cons (.sub (.var 9) (.int 0)) (.cons (.bin .Add (.sub (.var 9) (.int 1)) (.var 7)) .nil))))
    .nil))
    .nil)
    (.cons (.asg (.var 10) (.list .nil))
    (.cons (.for (.two 11 9) (.enum (.var 3))
    (.cons (.asg (.var 12) (.call (.glob ("_law_step" : Str)) (.cons (.var 9) (.cons (.var 8) .nil))))
    (.cons (.asg (.var 13) (.call (.glob ("after" : Str)) (.cons (.var 9) (.cons (.var 8) .nil))))
    (.cons (.ite (.or (.cmp .NotEq (.var 13) (.var 12)) (.and (.cmp .IsNot (.var 12) .none) (.not (.call (.glob ("_law_is_spot" : Str)) (.cons (.var 13) .nil)))))
    (.cons (.ret (.bool false))
    .nil)
    .nil)
    (.cons (.ite (.cmp .IsNot (.var 12) .none)
    (.cons (.expr (.meth (.var 10) .append (.cons (.tup (.cons (.var 11) (.cons (.var 12) .nil))) .nil)))
    .nil)
    .nil)
    .nil)))))
    (.cons (.asg (.var 14) (.listOf (.var 3)))
    (.cons (.asg (.var 13) (.call (.glob ("nexts" : Str)) (.cons (.var 14) (.cons (.var 8) .nil))))
    (.cons (.ite (.or (.not (.call (.glob ("_law_nexts_good" : Str)) (.cons (.var 13) (.cons (.var 10) .nil)))) (.cmp .NotEq (.var 14) (.var 3)))
    (.cons (.ret (.bool false))
    .nil)
    .nil)
    (.cons (.expr (.meth (.var 14) .clear .nil))
    (.cons (.ite (.or (.cmp .NotEq (.var 13) (.var 10)) (.cmp .NotEq (.call (.glob ("nexts" : Str)) (.cons (.var 14) (.cons (.var 8) .nil))) (.list .nil)))
    (.cons (.ret (.bool false))
    .nil)
    .nil)
    (.cons (.expr (.meth (.var 13) .clear .nil))
    (.cons (.ret (.call (.glob ("_law_nexts_good" : Str)) (.cons (.call (.glob ("nexts" : Str)) (.cons (.var 3) (.cons (.var 8) .nil))) (.cons (.var 10) .nil))))
    .nil))))))))))))))))))⟩
end Law02
end

/-! C02a -/
section
open PySem PyProof.Rows Mine Cm
set_option maxRecDepth 100000
set_option maxHeartbeats 400000
set_option linter.all false
namespace Law02
structure Fns (cx : Cx) : Prop where
  after : ∃ a fd body, FunOk cx "after" a fd body f_after
  nexts : ∃ a fd body, FunOk cx "nexts" a fd body f_nexts
  cell_at : ∃ a fd body, FunOk cx "_law_cell_at" a fd body f__law_cell_at
  signs : ∃ a fd body, FunOk cx "_law_signs" a fd body f__law_signs
  mixed : ∃ a fd body, FunOk cx "_law_mixed" a fd body f__law_mixed
  rule : ∃ a fd body, FunOk cx "_law_rule" a fd body f__law_rule
  step : ∃ a fd body, FunOk cx "_law_step" a fd body f__law_step
  is_spot : ∃ a fd body, FunOk cx "_law_is_spot" a fd body f__law_is_spot
  nexts_good : ∃ a fd body, FunOk cx "_law_nexts_good" a fd body f__law_nexts_good
  law : ∃ a fd body, FunOk cx "law" a fd body f_law
variable {cx : Cx} {n : Nat} {Q : PV → Hp → Prop} {E : Addr → Hp → Prop} {H : Hp}

noncomputable def ruleP (q : Int) (c : Nat) (q' : Int) (p : Str) : PV := .tup [.int q, chr c, .int q', .str p]
noncomputable def afterP (q : Int) (c : Nat) (q' : Int) (p : Str) (s : Int) (pile : Str) : PV := if s = q ∧ pile.cps.toList.head? = some c then spotP q' (p ++ ⟨(slFrom pile.cps.toList 1).toArray⟩) else .none

theorem head_sl (l : List Nat) (c : Nat) : ((⟨(slTo l 1).toArray⟩ : Str) = ⟨#[c]⟩) ↔ l.head? = some c := by
  cases l with
  | nil => simp [slTo]
  | cons a l => simp [slTo]

theorem c_after (ok : CxOk cx) (fs : Fns cx) {q q' s : Int} {c : Nat} {p pile : Str} (hp : p.length ≤ 1000) (hq : pile.length ≤ 1000) (h : Q (afterP q c q' p s pile) H) : CallW cx (n + 1) (.g "after") [ruleP q c q' p, spotP s pile] Q E H := by
  obtain ⟨a, fd, body, hf⟩ := fs.after
  refine call_fun ok hf rfl ?_
  unfold afterP at h
  simp only [f_after, ruleP, spotP, chr]
  repeat walk_at "go"
  refine x_if (fun hb => ?_) (fun hb => ?_)
  · repeat walk_at "go"
    refine x_ifT ?_
    repeat walk_at "go"
    rw [if_neg (by intro hx; simp at hb; exact hb hx.1)] at h
    exact h
  · repeat walk_at "go"
    refine t_str (size_le (by omega)) ?_
    repeat walk_at "go"
    have hs : s = q := by simpa using hb
    refine x_if (fun hb' => ?_) (fun hb' => ?_)
    · repeat walk_at "go"
      rw [if_neg (by intro hx; simp only [chr, ne_eq, decide_eq_true_eq] at hb'; exact hb' ((head_sl _ _).mpr hx.2))] at h
      exact h
    · repeat walk_at "go"
      refine f_str (size_le (by omega)) ?_
      repeat walk_at "go"
      have e : pile.cps.toList.head? = some c := by
        rw [← head_sl]; simpa [chr] using hb'
      rw [if_pos ⟨hs, e⟩] at h
      refine b_str (size_le ?_) ?_
      · have := slFrom_len pile.cps.toList 1
        have e1 : (⟨(slFrom pile.cps.toList 1).toArray⟩ : Str).length = (slFrom pile.cps.toList 1).length := by simp [Str.length]
        rw [e1]
        have e2 : pile.cps.toList.length = pile.length := rfl
        omega
      repeat walk_at "go"
      exact ⟨size_le (by simp), h⟩
end Law02
end

/-! C02b -/
section
open PySem PyProof.Rows Mine Cm
set_option maxRecDepth 100000
set_option maxHeartbeats 400000
set_option linter.all false
namespace Law02
variable {cx : Cx} {n : Nat} {Q : PV → Hp → Prop} {E : Addr → Hp → Prop} {H : Hp}

/-- what comes of a rule at a spot -/
noncomputable def aft (r : Rl) (s : Int) (pile : List Nat) : Option (Int × List Nat) := if s = r.q ∧ pile.head? = some r.c then some (r.q', r.p ++ pile.tail) else none
noncomputable def optP : Option (Int × List Nat) → PV
  | none => .none
  | some (q, p) => spotP q (txt p)

theorem slFrom_one (l : List Nat) : slFrom l 1 = l.tail := by cases l <;> simp [slFrom]
theorem optP_aft (r : Rl) (s : Int) (pile : List Nat) : optP (aft r s pile) = if s = r.q ∧ pile.head? = some r.c then spotP r.q' (txt r.p ++ txt pile.tail) else .none := by
  unfold aft
  split
  · rw [optP, txt_app]
  · rfl
theorem c_aft (ok : CxOk cx) (fs : Fns cx) {r : Rl} {s : Int} {pile : List Nat} (hp : r.p.length ≤ 1000) (hq : pile.length ≤ 1000) (h : Q (optP (aft r s pile)) H) : CallW cx (n + 1) (.g "after") [r.v, spotP s (txt pile)] Q E H := by
  refine c_after ok fs (by rw [txt_len]; exact hp) (by rw [txt_len]; exact hq) ?_
  rw [optP_aft] at h
  unfold afterP
  rw [txt_cps, slFrom_one]
  exact h

theorem c_step (ok : CxOk cx) (fs : Fns cx) {r : Rl} {s : Int} {pile : List Nat} (hp : r.p.length ≤ 1000) (hq : pile.length ≤ 1000) (h : Q (optP (aft r s pile)) H) : CallW cx (n + 1) (.g "_law_step") [r.v, spotP s (txt pile)] Q E H := by
  obtain ⟨_, fd, body, hf⟩ := fs.step
  refine call_fun ok hf rfl ?_
  rw [optP_aft] at h
  simp only [f__law_step, Rl.v, spotP, chr]
  repeat walk_at "go"
  cases pile with
  | nil =>
    refine x_if (fun hb => ?_) (fun hb => ?_)
    · repeat walk_at "go"
      refine x_ifT ?_
      repeat walk_at "go"
      rw [if_neg (by simp)] at h
      exact h
    · exfalso; simp at hb; exact hb rfl
  | cons d pile =>
    refine x_if (fun hb => ?_) (fun hb => ?_)
    · exfalso
      have hb : txt (d :: pile) = txt [] := (by simpa using hb : txt (d :: pile) = ("" : Str))
      rw [txt_inj] at hb; cases hb
    repeat walk_at "go"
    refine x_if (fun hb => ?_) (fun hb => ?_)
    · repeat walk_at "go"
      refine x_ifT ?_
      repeat walk_at "go"
      rw [if_neg (by intro hx; simp at hb; exact hb hx.1.symm)] at h
      exact h
    have hs : r.q = s := by simpa using hb
    repeat walk_at "go"
    refine s_str (c := d) (by rw [txt_cps]; rfl) (by decide) ?_
    repeat walk_at "go"
    refine k_sne ?_
    repeat walk_at "go"
    refine x_if (fun hb' => ?_) (fun hb' => ?_)
    · repeat walk_at "go"
      rw [if_neg (by
        intro hx
        have e : d = r.c := by simpa using hx.2
        subst e
        simp at hb')] at h
      exact h
    · have e : r.c = d := by simpa using hb'
      rw [if_pos ⟨hs.symm, by simp [e]⟩] at h
      repeat walk_at "go"
      refine f_str (size_le (by rw [txt_len]; omega)) ?_
      repeat walk_at "go"
      have e2 : (⟨(slFrom (txt (d :: pile)).cps.toList 1).toArray⟩ : Str) = txt pile := by rw [txt_cps, slFrom_one]; rfl
      rw [e2]
      simp only [List.length_cons] at hq
      refine b_str (size_le (by rw [txt_len, txt_len]; omega)) ?_
      repeat walk_at "go"
      exact ⟨size_le (by simp), h⟩

theorem c_is_spot (ok : CxOk cx) (sd : Std cx) (fs : Fns cx) {q : Int} {p : Str} (h : Q (.bool true) H) : CallW cx (n + 1) (.g "_law_is_spot") [spotP q p] Q E H := by
  obtain ⟨_, fd, body, hf⟩ := fs.is_spot
  refine call_fun ok hf rfl ?_
  simp only [f__law_is_spot, spotP]
  repeat walk_at "go"
  refine isinstance_r sd .tuple ⟨true, rfl, ?_⟩
  repeat walk_at "go"
  refine x_ifF ?_
  repeat walk_at "go"
  refine len_r sd ⟨2, rfl, by decide, ?_⟩
  repeat walk_at "go"
  refine x_ifF ?_
  repeat walk_at "go"
  refine isinstance_r sd .int ⟨true, rfl, ?_⟩
  repeat walk_at "go"
  refine x_ifT ?_
  repeat walk_at "go"
  refine isinstance_r sd .bool ⟨false, rfl, ?_⟩
  repeat walk_at "go"
  refine x_ifT ?_
  repeat walk_at "go"
  refine isinstance_r sd .str ⟨true, rfl, ?_⟩
  exact h

noncomputable def due (s : Int) (pile : List Nat) : Nat → List Rl → List PV
  | _, [] => []
  | k, r :: rs => match aft r s pile with
    | none => due s pile (k + 1) rs
    | some z => .tup [.int k, optP (some z)] :: due s pile (k + 1) rs
theorem due_len (s : Int) (pile : List Nat) : ∀ (k : Nat) (rs : List Rl), (due s pile k rs).length ≤ rs.length
  | _, [] => by simp [due]
  | k, r :: rs => by
    have := due_len s pile (k + 1) rs
    simp only [due]
    split <;> simp <;> omega

theorem c_nexts (ok : CxOk cx) (fs : Fns cx) {a : Addr} {rs : List Rl} {s : Int} {pile : List Nat} (hl : H a = some (.list (rs.map Rl.v))) (hr : ∀ r ∈ rs, r.p.length ≤ 2) (hn : rs.length ≤ 1000) (hq : pile.length ≤ 1000)
    (h : ∀ H' b, Ext H H' → H b = none → H' b = some (.list (due s pile 0 rs)) → Q (.ref b) H') : CallW cx (n + 2) (.g "nexts") [.ref a, spotP s (txt pile)] Q E H := by
  obtain ⟨_, fd, body, hf⟩ := fs.nexts
  refine call_fun ok hf rfl ?_
  simp only [f_nexts]
  repeat walk_at "go"
  refine ⟨size_le (by simp), fun b H1 n1 => ?_⟩
  repeat walk_at "go"
  refine q_list (n1.ext _ _ hl) ?_
  have hb := n1.1
  have hd := due_len s pile 0 rs
  refine for_inv (fun l σ H' => ∃ k rs' acc y3 y4 y5, l = enumL k (rs'.map Rl.v) ∧ (∀ r ∈ rs', r ∈ rs) ∧ σ = [some (.ref a), some (spotP s (txt pile)), some (.ref b), y3, y4, y5] ∧ H' b = some (.list acc) ∧ acc ++ due s pile k rs' = due s pile 0 rs ∧ Ext H H')
    ?_ ?_ ?_ _ _ _ ⟨0, rs, [], _, _, _, rfl, fun _ h => h, rfl, n1.get, rfl, n1.ext⟩
  · rintro l σ H' ⟨k, rs', acc, y3, y4, y5, -, -, -, -, -, x⟩
    exact x _ _ hl
  · rintro σ H' ⟨k, rs', acc, y3, y4, y5, e, -, rfl, hb', ea, x⟩
    repeat walk_at "go"
    refine h H' b x hb ?_
    cases rs' with
    | nil => simp only [due, List.append_nil] at ea; rw [← ea]; exact hb'
    | cons r rs' => simp [enumL] at e
  · rintro R z l σ H' ⟨k, rs', acc, y3, y4, y5, e, hm, rfl, hb', ea, x⟩ hR
    cases rs' with
    | nil => simp [enumL] at e
    | cons r rs' =>
      simp only [List.map_cons, enumL, List.cons.injEq] at e
      obtain ⟨rfl, rfl⟩ := e
      refine ⟨_, rfl, ?_⟩
      have hp := hr r (hm r List.mem_cons_self)
      have hla : acc.length ≤ 1000 := by
        have := congrArg List.length ea
        simp only [List.length_append] at this
        omega
      repeat walk_at "go"
      refine c_aft ok fs (by omega) hq ?_
      repeat walk_at "go"
      rw [due] at ea
      cases haf : aft r s pile with
      | none =>
        simp only [haf] at ea
        simp only [optP]
        repeat walk_at "go"
        refine x_ifF ?_
        repeat walk_at "go"
        exact hR _ _ ⟨k + 1, rs', acc, _, _, _, rfl, fun r' h' => hm r' (List.mem_cons_of_mem _ h'), rfl, hb', ea, x⟩
      | some z =>
        simp only [haf] at ea
        refine k_isn_none (by simp [optP, spotP]) ?_
        repeat walk_at "go"
        refine x_ifT ?_
        repeat walk_at "go"
        refine m_append hb' ?_
        repeat walk_at "go"
        refine ⟨size_le (by simp), ?_⟩
        repeat walk_at "go"
        refine append_N hb' (by omega) fun H2 n2 => ?_
        repeat walk_at "go"
        exact hR _ _ ⟨k + 1, rs', _, _, _, _, rfl, fun r' h' => hm r' (List.mem_cons_of_mem _ h'), rfl, n2.get, by rw [List.append_assoc]; exact ea, n2.ext x hb⟩

/-- pairs of a number and a spot of letters -/
noncomputable def PairOk (x : PV) : Prop := ∃ (k q : Int) (p : List Nat), x = .tup [.int k, spotP q (txt p)] ∧ ∀ c ∈ p, isL c
theorem PairOk.dat {x : PV} (h : PairOk x) : Dat 2 x := by
  obtain ⟨k, q, p, rfl, hp⟩ := h
  simp only [Dat, List.mem_cons, List.not_mem_nil, or_false, spotP]
  rintro y (rfl | rfl)
  · simp only [Dat]
  · simp only [Dat, List.mem_cons, List.not_mem_nil, or_false]
    rintro y (rfl | rfl)
    · simp only [Dat]
    · simp only [Dat]; exact txt_isL hp
theorem due_ok {m s : Int} {pile : List Nat} (hp : ∀ c ∈ pile, isL c) : ∀ (k : Nat) (rs : List Rl), (∀ r ∈ rs, r.ok m) → ∀ x ∈ due s pile k rs, PairOk x
  | _, [], _, x, hx => by simp [due] at hx
  | k, r :: rs, hr, x, hx => by
    have ih := due_ok (s := s) hp (k + 1) rs fun r' h' => hr r' (List.mem_cons_of_mem _ h')
    simp only [due] at hx
    split at hx
    · exact ih x hx
    · rename_i z hz
      simp only [List.mem_cons] at hx
      rcases hx with rfl | hx
      · unfold aft at hz
        split at hz
        · cases hz
          refine ⟨k, r.q', r.p ++ pile.tail, rfl, fun c hc => ?_⟩
          rcases List.mem_append.mp hc with hc | hc
          · exact (hr r List.mem_cons_self).p c hc
          · exact hp c (List.mem_of_mem_tail hc)
        · cases hz
      · exact ih x hx

theorem c_nexts_good (ok : CxOk cx) (sd : Std cx) (fs : Fns cx) {a b : Addr} {l : List PV} (ha : H a = some (.list l)) (hb : H b = some (.list l)) (hl : ∀ x ∈ l, PairOk x) (h : Q (.bool true) H) : CallW cx (n + 2) (.g "_law_nexts_good") [.ref a, .ref b] Q E H := by
  obtain ⟨_, fd, body, hf⟩ := fs.nexts_good
  refine call_fun ok hf rfl ?_
  simp only [f__law_nexts_good]
  repeat walk_at "go"
  refine isinstance_r sd .list ⟨true, by simp [isT, ha], ?_⟩
  repeat walk_at "go"
  refine x_ifF ?_
  repeat walk_at "go"
  refine k_one (neL ha hb (fun x hx => (hl x hx).dat) (fun x hx => (hl x hx).dat) (by decide) fun r hr => ?_) rfl
  have e : r = false := by cases r <;> simp at hr ⊢
  subst e
  repeat walk_at "go"
  refine x_ifF ?_
  repeat walk_at "go"
  refine i_list ha ?_
  refine for_inv (fun l' σ H' => ∃ y, H' = H ∧ (∀ x ∈ l', x ∈ l) ∧ σ = [some (.ref a), some (.ref b), y]) ?_ ?_ ?_ _ _ _ ⟨_, rfl, fun _ h => h, rfl⟩
  · rintro l' σ H' ⟨y, rfl, -, -⟩; exact ha
  · rintro σ H' ⟨y, rfl, -, rfl⟩
    repeat walk_at "go"
    exact h
  · rintro R z l' σ H' ⟨y, rfl, hm, rfl⟩ hR
    obtain ⟨k, q, p, rfl, hp⟩ := hl z (hm z List.mem_cons_self)
    refine ⟨_, rfl, ?_⟩
    repeat walk_at "go"
    refine isinstance_r sd .tuple ⟨true, rfl, ?_⟩
    repeat walk_at "go"
    refine x_ifF ?_
    repeat walk_at "go"
    refine isinstance_r sd .bool ⟨false, rfl, ?_⟩
    repeat walk_at "go"
    refine x_ifF ?_
    repeat walk_at "go"
    refine c_is_spot ok sd fs ?_
    repeat walk_at "go"
    refine x_ifF ?_
    repeat walk_at "go"
    exact hR _ _ ⟨_, rfl, fun x hx => hm x (List.mem_cons_of_mem _ hx), rfl⟩
end Law02
end

/-! C02c -/
section
open PySem PyProof.Rows Mine Cm
set_option maxRecDepth 100000
set_option maxHeartbeats 400000
set_option linter.all false
namespace Law02
variable {cx : Cx} {n : Nat} {Q : PV → Hp → Prop} {E : Addr → Hp → Prop} {H : Hp}

theorem c_law (ok : CxOk cx) (sd : Std cx) (fs : Fns cx) {a : Addr} {o : Obj} {ns : List Int} (hl : H a = some (.froz o (ns.map .int))) (hn : ns.length ≤ 63) :
    CallW cx (n + 3) (.g "law") [.ref a] (fun p H' => p = .bool true ∧ H' a = some (.froz o (ns.map .int))) E H := by
  obtain ⟨_, fd, body, hf⟩ := fs.law
  refine call_fun ok hf rfl ?_
  simp only [f_law]
  repeat walk_at "go"
  refine c_cell_at ok sd fs.cell_at hl hn (by decide) ?_
  repeat walk_at "go"
  have hm : 0 < 1 + cellAt ns 0 % 5 ∧ 1 + cellAt ns 0 % 5 ≤ 5 := by have := emod_in (cellAt ns 0) (m := 5) (by decide); omega
  generalize 1 + cellAt ns 0 % 5 = m at hm ⊢
  refine c_cell_at ok sd fs.cell_at hl hn (by decide) ?_
  repeat walk_at "go"
  refine c_signs ok fs.signs fun H1 b x1 hb0 hb => ?_
  have hL := signs_isL (cellAt ns 1)
  have hL3 : (signs (cellAt ns 1)).length = 3 := rfl
  generalize signs (cellAt ns 1) = cs at hb hL hL3
  repeat walk_at "go"
  refine ⟨size_le (by simp), fun c H2 n2 => ?_⟩
  repeat walk_at "go"
  have hc := n2.1
  refine c_cell_at ok sd fs.cell_at (n2.ext _ _ (x1 _ _ hl)) hn (by decide) ?_
  repeat walk_at "go"
  have h13 := emod_in (cellAt ns 2) (m := 13) (by decide)
  refine ⟨by omega, ?_⟩
  refine for_inv (fun l σ H' => ∃ rs y4, (∀ p ∈ l, ∃ j : Nat, p = .int (j : Int) ∧ (j : Int) < 13) ∧ rs.length + l.length ≤ 13 ∧ (∀ r ∈ rs, r.ok m) ∧ σ = [some (.ref a), some (.int m), some (.ref b), some (.ref c), y4, none, none, none, none, none, none, none, none, none, none] ∧ H' c = some (.list (rs.map Rl.v)) ∧ Ext H1 H')
    ?_ ?_ ?_ _ _ _ ⟨[], _, fun p hp => ?_, ?_, by simp, rfl, n2.get, n2.ext⟩
  · intros; trivial
  rotate_left
  · rintro R z l σ H' ⟨rs, y4, hj, hln, hrs, rfl, hc', x⟩ hR
    obtain ⟨j, rfl, hj13⟩ := hj _ List.mem_cons_self
    refine ⟨_, rfl, ?_⟩
    repeat walk_at "go"
    refine m_append hc' ?_
    repeat walk_at "go"
    refine c_cell_at ok sd fs.cell_at (x _ _ (x1 _ _ hl)) hn (by omega) ?_
    repeat walk_at "go"
    refine c_mixed ok fs.mixed (by omega) ?_
    repeat walk_at "go"
    refine c_rule ok fs.rule (x _ _ hb) hL3 hL hm fun H'' r x'' hr => ?_
    repeat walk_at "go"
    simp only [List.length_cons] at hln
    refine append_N (x'' _ _ hc') (by simp; omega) fun H3 n3 => ?_
    repeat walk_at "go"
    refine hR _ _ ⟨rs ++ [r], _, fun p hp => hj p (List.mem_cons_of_mem _ hp), by simp; omega, ?_, rfl, ?_, n3.ext (x.trans x'') hc⟩
    · intro r' hr'
      rcases List.mem_append.mp hr' with h' | h'
      · exact hrs r' h'
      · simp only [List.mem_singleton] at h'; subst h'; exact hr
    · rw [n3.get, List.map_append]; rfl
  · obtain ⟨j, rfl, h⟩ := range_mem hp; exact ⟨j, rfl, by omega⟩
  · rw [range_len]; simp; omega
  clear n2 h13
  rintro σ H2 ⟨rs, y4, -, hln, hrs, rfl, hc2, x2⟩
  have hb2 := x2 _ _ hb
  replace x2 : Ext H H2 := x1.trans x2
  simp only [List.length_nil, Nat.add_zero] at hln
  repeat walk_at "gx"
  refine c_cell_at ok sd fs.cell_at (x2 _ _ hl) hn (by decide) ?_
  repeat walk_at "gx"
  refine ⟨size_le (by simp), fun d H3 n3 => ?_⟩
  repeat walk_at "gx"
  have h4 := emod_in (cellAt ns 3) (m := 4) (by decide)
  obtain ⟨p, hp, e⟩ := idx_mem (l := [PV.int (cellAt ns 3 / 4 % 9), .int (cellAt ns 3 / 4 % 9), .int (cellAt ns 3 / 4 % 3), .int (cellAt ns 3 / 4 % 91)]) h4.1 (by simpa using h4.2)
  obtain ⟨z, rfl, hz0, hz2⟩ : ∃ z : Int, p = .int z ∧ 0 ≤ z ∧ z ≤ 90 := by
    simp only [List.mem_cons, List.not_mem_nil, or_false] at hp
    rcases hp with rfl | rfl | rfl | rfl <;> exact ⟨_, rfl, by omega, by omega⟩
  refine s_list n3.get e (by omega) ?_
  have hc3 := n3.ext _ _ hc2
  have hb3 := n3.ext _ _ hb2
  have x3 := x2.trans n3.ext
  clear n3 e hp x2 hb2 hc2
  repeat walk_at "gx"
  refine ⟨by omega, size_le (by rw [range_len]; omega), comp_mapN (fun p => match p with | .int y => chr (cs.getD (mixed (cellAt ns 4) y / 7 % 3).toNat 0) | _ => .none) trivial (fun y hy K hK => ?_) fun d H4 n4 => ?_⟩
  · obtain ⟨j, rfl, hj⟩ := range_mem hy
    refine ⟨_, rfl, ?_⟩
    repeat walk_at "gx"
    refine c_cell_at ok sd fs.cell_at (x3 _ _ hl) hn (by decide) ?_
    repeat walk_at "gx"
    refine c_mixed ok fs.mixed (by omega) ?_
    repeat walk_at "gx"
    have hi := emod_in (mixed (cellAt ns 4) (j : Int) / 7) (m := 3) (by decide)
    exact s_list hb3 (idx_chr hi.1 (by omega)) (by omega) hK
  have e6 : (rangeL 0 z).map (fun p => match p with | .int y => chr (cs.getD (mixed (cellAt ns 4) y / 7 % 3).toNat 0) | _ => .none) = (((List.range z.toNat).map fun (j : Nat) => cs.getD (mixed (cellAt ns 4) (j : Int) / 7 % 3).toNat 0).map fun c => txt [c]).map PV.str := by
    rw [range_map, List.map_map, List.map_map]; rfl
  rw [e6] at n4
  generalize hpi : ((List.range z.toNat).map fun (j : Nat) => cs.getD (mixed (cellAt ns 4) (j : Int) / 7 % 3).toNat 0) = pile at n4
  have lpi : pile.length ≤ 90 := by rw [← hpi]; simp; omega
  have okpi : ∀ c ∈ pile, isL c := by
    intro c hc
    rw [← hpi] at hc
    obtain ⟨j, _, rfl⟩ := List.mem_map.mp hc
    have hi := emod_in (mixed (cellAt ns 4) (j : Int) / 7) (m := 3) (by decide)
    exact hL _ (getD_mem (by omega))
  refine join_r n4.get (joinOk_chars (by omega)) ?_
  rw [join_chars]
  have hc4 := n4.ext _ _ hc3
  have x4 := x3.trans n4.ext
  clear n4 hpi e6 x3 hc3 hb3
  repeat walk_at "gx"
  refine c_cell_at ok sd fs.cell_at (x4 _ _ hl) hn (by decide) ?_
  repeat walk_at "gx"
  refine b_mod hm.1 ?_
  repeat walk_at "gx"
  refine ⟨size_le (by simp), ?_⟩
  repeat walk_at "gx"
  have drs : ∀ x ∈ rs.map Rl.v, Dat 1 x := by
    intro x hx
    obtain ⟨r, hr, rfl⟩ := List.mem_map.mp hx
    exact (hrs r hr).dat
  refine y_cut (fun σ H' => ∃ s pile y4 y5 y6 y7 y9, (∀ c ∈ pile, isL c) ∧ pile.length ≤ 91 ∧ σ = [some (.ref a), some (.int m), some (.ref b), some (.ref c), y4, y5, y6, y7, some (spotP s (txt pile)), y9, none, none, none, none, none] ∧ H' c = some (.list (rs.map Rl.v)) ∧ Ext H H') ?_ fun K' hK' => ?_
  rotate_left
  · repeat walk_at "go"
    refine ⟨size_le (by simp), fun d H5 n5 => ?_⟩
    have hc5 := n5.ext _ _ hc4
    have x5 := x4.trans n5.ext
    refine k_one (neL hc5 n5.get drs (k' := 0) (by simp) (by decide) fun r hr => ?_) rfl
    repeat walk_at "go"
    refine x_if (fun hb1 => ?_) (fun hb1 => ?_)
    · have hne : rs ≠ [] := fun e => by subst e; simp [hb1] at hr
      have hpos : 0 < rs.length := List.length_pos_iff.mpr hne
      repeat walk_at "go"
      refine c_cell_at ok sd fs.cell_at (x5 _ _ hl) hn (by decide) ?_
      repeat walk_at "go"
      refine x_if (fun hb2 => ?_) (fun hb2 => ?_)
      · repeat walk_at "go"
        refine c_cell_at ok sd fs.cell_at (x5 _ _ hl) hn (by decide) ?_
        repeat walk_at "go"
        refine len_r sd ⟨rs.length, by simp [lenA, hc5], by omega, ?_⟩
        refine b_mod (by omega) ?_
        have hi := emod_in (cellAt ns 5 / 20) (m := (rs.length : Int)) (by omega)
        obtain ⟨p, hp, e⟩ := idx_mem (l := rs.map Rl.v) hi.1 (by simpa using hi.2)
        obtain ⟨r1, hr1, rfl⟩ := List.mem_map.mp hp
        refine s_list hc5 e (by omega) ?_
        repeat walk_at "go"
        simp only [Rl.v]
        repeat walk_at "go"
        refine b_str (size_le (by rw [txt_len]; simp [Str.length]; omega)) ?_
        repeat walk_at "go"
        refine ⟨size_le (by simp), ?_⟩
        repeat walk_at "go"
        have e9 : (⟨#[r1.c]⟩ : Str) ++ txt pile = txt (r1.c :: pile) := txt_app [r1.c] pile
        rw [e9]
        refine hK' _ _ ⟨r1.q, r1.c :: pile, _, _, _, _, _, ?_, by simp; omega, rfl, hc5, x5⟩
        intro c hc
        rcases List.mem_cons.mp hc with rfl | hc
        · exact (hrs r1 hr1).c
        · exact okpi c hc
      · repeat walk_at "go"
        exact hK' _ _ ⟨_, pile, _, _, _, _, _, okpi, by omega, rfl, hc5, x5⟩
    · repeat walk_at "go"
      refine x_ifF ?_
      repeat walk_at "go"
      exact hK' _ _ ⟨_, pile, _, _, _, _, _, okpi, by omega, rfl, hc5, x5⟩
  clear hc4 x4 okpi lpi
  rintro σ H4 ⟨s, pile, y4, y5, y6, y7, y9, okpi, lpi, rfl, hc4, x4⟩
  repeat walk_at "gx"
  refine ⟨size_le (by simp), fun d H5 n5 => ?_⟩
  have hc5 := n5.ext _ _ hc4
  repeat walk_at "go"
  refine q_list hc5 ?_
  have hdl := due_len s pile 0 rs
  refine for_inv (fun l σ H' => ∃ k rs' acc y9 y11 y12 y13, l = enumL k (rs'.map Rl.v) ∧ (∀ r ∈ rs', r ∈ rs) ∧ σ = [some (.ref a), some (.int m), some (.ref b), some (.ref c), y4, y5, y6, y7, some (spotP s (txt pile)), y9, some (.ref d), y11, y12, y13, none] ∧ H' d = some (.list acc) ∧ acc ++ due s pile k rs' = due s pile 0 rs ∧ Ext H4 H')
    ?_ ?_ ?_ _ _ _ ⟨0, rs, [], _, _, _, _, rfl, fun _ h => h, rfl, n5.get, rfl, n5.ext⟩
  · rintro l σ H' ⟨k, rs', acc, y9, y11, y12, y13, -, -, -, -, -, x⟩
    exact x _ _ hc4
  rotate_left
  · rintro R z l σ H' ⟨k, rs', acc, y9, y11, y12, y13, e, hmem, rfl, hd', ea, x⟩ hR
    cases rs' with
    | nil => simp [enumL] at e
    | cons r rs' =>
      simp only [List.map_cons, enumL, List.cons.injEq] at e
      obtain ⟨rfl, rfl⟩ := e
      refine ⟨_, rfl, ?_⟩
      have hp := (hrs r (hmem r List.mem_cons_self))
      have hpl := hp.len
      have hla : acc.length ≤ 1000 := by
        have := congrArg List.length ea
        simp only [List.length_append] at this
        omega
      repeat walk_at "go"
      refine c_step ok fs (by omega) (by omega) ?_
      repeat walk_at "go"
      refine c_aft ok fs (by omega) (by omega) ?_
      repeat walk_at "go"
      rw [due] at ea
      cases haf : aft r s pile with
      | none =>
        simp only [haf] at ea
        simp only [optP]
        refine k_one (neD (k := 0) (k' := 0) trivial trivial (by decide) fun r' hr' => ?_) rfl
        rw [eqF hr' rfl]
        repeat walk_at "go"
        refine x_ifF ?_
        repeat walk_at "go"
        refine x_ifF ?_
        repeat walk_at "go"
        refine x_ifF ?_
        repeat walk_at "go"
        refine x_ifF ?_
        repeat walk_at "go"
        exact hR _ _ ⟨k + 1, rs', acc, _, _, _, _, rfl, fun r' h' => hmem r' (List.mem_cons_of_mem _ h'), rfl, hd', ea, x⟩
      | some z =>
        simp only [haf] at ea
        have hz : ∀ c ∈ z.2, isL c := by
          unfold aft at haf
          split at haf
          · cases haf
            intro c hc
            rcases List.mem_append.mp hc with hc | hc
            · exact hp.p c hc
            · exact okpi c (List.mem_of_mem_tail hc)
          · cases haf
        have dz : Dat 1 (optP (some z)) := by
          simp only [optP, spotP, Dat, List.mem_cons, List.not_mem_nil, or_false]
          rintro y (rfl | rfl)
          · simp only [Dat]
          · simp only [Dat]; exact txt_isL hz
        refine k_one (neD dz dz (by decide) fun r' hr' => ?_) rfl
        rw [eqF hr' rfl]
        repeat walk_at "go"
        refine x_ifF ?_
        repeat walk_at "go"
        refine k_isn_none (by simp [optP, spotP]) ?_
        repeat walk_at "go"
        refine x_ifT ?_
        repeat walk_at "go"
        refine c_is_spot ok sd fs ?_
        repeat walk_at "go"
        refine x_ifF ?_
        repeat walk_at "go"
        refine k_isn_none (by simp [optP, spotP]) ?_
        repeat walk_at "go"
        refine x_ifT ?_
        repeat walk_at "go"
        refine m_append hd' ?_
        repeat walk_at "go"
        refine ⟨size_le (by simp), ?_⟩
        repeat walk_at "go"
        refine append_N hd' (by omega) fun H2 n2 => ?_
        repeat walk_at "go"
        exact hR _ _ ⟨k + 1, rs', _, _, _, _, _, rfl, fun r' h' => hmem r' (List.mem_cons_of_mem _ h'), rfl, n2.get, by rw [List.append_assoc]; exact ea, n2.ext x n5.1⟩
  rintro σ H6 ⟨k, rs', acc, y9, y11, y12, y13, e, -, rfl, hd6, ea, x6⟩
  have hd6 : H6 d = some (.list (due s pile 0 rs)) := by
    cases rs' with
    | nil => simp only [due, List.append_nil] at ea; rw [← ea]; exact hd6
    | cons r rs' => simp [enumL] at e
  clear ea e
  have hc6 := x6 _ _ hc4
  have x6 := x4.trans x6
  have hpo := due_ok (m := m) (s := s) okpi 0 rs hrs
  have hdat : ∀ x ∈ due s pile 0 rs, Dat 2 x := fun x hx => (hpo x hx).dat
  have hlen : ∀ r ∈ rs, r.p.length ≤ 2 := fun r hr => (hrs r hr).len
  repeat walk_at "go"
  refine l_list hc6 ⟨size_le (by simp; omega), fun e H7 n7 => ?_⟩
  repeat walk_at "go"
  refine c_nexts ok fs n7.get hlen (by omega) (by omega) fun H8 f x8 hf0 hf8 => ?_
  have hc8 := x8 _ _ (n7.ext _ _ hc6)
  have hd8 := x8 _ _ (n7.ext _ _ hd6)
  have he8 := x8 _ _ n7.get
  have y8 := x6.trans (n7.ext.trans x8)
  repeat walk_at "go"
  refine c_nexts_good ok sd fs hf8 hd8 hpo ?_
  repeat walk_at "go"
  refine x_ifF ?_
  repeat walk_at "go"
  refine k_one (neL he8 hc8 drs drs (by decide) fun r hr => ?_) rfl
  rw [eqF hr rfl]
  repeat walk_at "go"
  refine x_ifF ?_
  repeat walk_at "go"
  refine m_clear he8 ?_
  repeat walk_at "go"
  refine clear_N he8 (by simp; omega) fun H9 n9 => ?_
  have hce : c ≠ e := ne_addr hc6 n7.1
  have hde : d ≠ e := ne_addr hd6 n7.1
  have hfe : f ≠ e := (ne_addr n7.get hf0).symm
  have hc9 : H9 c = some (.list (rs.map Rl.v)) := by rw [n9.ne hce]; exact hc8
  have hd9 : H9 d = some (.list (due s pile 0 rs)) := by rw [n9.ne hde]; exact hd8
  have hf9 : H9 f = some (.list (due s pile 0 rs)) := by rw [n9.ne hfe]; exact hf8
  have y9' : Ext H H9 := n9.ext y8 (x6.none n7.1)
  repeat walk_at "go"
  refine k_one (neL hf9 hd9 hdat hdat (by decide) fun r hr => ?_) rfl
  rw [eqF hr rfl]
  repeat walk_at "go"
  refine x_ifF ?_
  repeat walk_at "go"
  refine c_nexts ok fs (rs := []) n9.get (by simp) (by simp) (by omega) fun H10 g x10 hg0 hg10 => ?_
  repeat walk_at "go"
  refine ⟨size_le (by simp), fun g' H11 n11 => ?_⟩
  refine k_one (neL (n11.ext _ _ hg10) n11.get (k := 0) (k' := 0) (by simp [due]) (by simp) (by decide) fun r hr => ?_) rfl
  rw [eqF hr rfl]
  have x11 := x10.trans n11.ext
  repeat walk_at "go"
  refine x_ifF ?_
  repeat walk_at "go"
  refine m_clear (x11 _ _ hf9) ?_
  repeat walk_at "go"
  refine clear_N (x11 _ _ hf9) (by omega) fun H12 n12 => ?_
  have hcf : c ≠ f := ne_addr (n7.ext _ _ hc6) hf0
  have hdf : d ≠ f := ne_addr (n7.ext _ _ hd6) hf0
  have hc12 : H12 c = some (.list (rs.map Rl.v)) := by rw [n12.ne hcf]; exact x11 _ _ hc9
  have hd12 : H12 d = some (.list (due s pile 0 rs)) := by rw [n12.ne hdf]; exact x11 _ _ hd9
  have y12' : Ext H H12 := n12.ext (y9'.trans x11) (x6.none (n7.ext.none hf0))
  repeat walk_at "go"
  refine c_nexts ok fs hc12 hlen (by omega) (by omega) fun H13 g2 x13 hg0' hg13 => ?_
  repeat walk_at "go"
  refine c_nexts_good ok sd fs hg13 (x13 _ _ hd12) hpo ?_
  exact ⟨rfl, x13 _ _ (y12' _ _ hl)⟩
end Law02
end

/-! H02 -/
section
open PySem PySem.W PyProof.Rows
set_option Elab.async false
set_option maxRecDepth 100000
set_option maxHeartbeats 8000000
namespace Law02
local macro_rules | `(tactic| k_head) => `(tactic| o_head Hook.none)
open_top hd02 for PySem.Challenge.rw_uf050029_02
end Law02
end

/-! J02 -/
section
open PySem PySem.W PyProof.Rows Mine Cm
set_option autoImplicit false
set_option maxRecDepth 100000
set_option maxHeartbeats 8000000
namespace Law02
noncomputable def D : List DefItem := List.map itemOf (recsOf hd02.view_39)
theorem t_after : ∃ d ∈ D, d.name = ("after" : Str) ∧ d.params.defaults = [] ∧ cFun gl ks f_after.names d.params d.scope d.body = some f_after :=
  ⟨D[0]'(by decide +kernel), List.getElem_mem _, by kernel_rfl, by kernel_rfl, by kernel_rfl⟩
theorem t_nexts : ∃ d ∈ D, d.name = ("nexts" : Str) ∧ d.params.defaults = [] ∧ cFun gl ks f_nexts.names d.params d.scope d.body = some f_nexts :=
  ⟨D[1]'(by decide +kernel), List.getElem_mem _, by kernel_rfl, by kernel_rfl, by kernel_rfl⟩
theorem t__law_cell_at : ∃ d ∈ D, d.name = ("_law_cell_at" : Str) ∧ d.params.defaults = [] ∧ cFun gl ks f__law_cell_at.names d.params d.scope d.body = some f__law_cell_at :=
  ⟨D[2]'(by decide +kernel), List.getElem_mem _, by kernel_rfl, by kernel_rfl, by kernel_rfl⟩
theorem t__law_signs : ∃ d ∈ D, d.name = ("_law_signs" : Str) ∧ d.params.defaults = [] ∧ cFun gl ks f__law_signs.names d.params d.scope d.body = some f__law_signs :=
  ⟨D[3]'(by decide +kernel), List.getElem_mem _, by kernel_rfl, by kernel_rfl, by kernel_rfl⟩
theorem t__law_mixed : ∃ d ∈ D, d.name = ("_law_mixed" : Str) ∧ d.params.defaults = [] ∧ cFun gl ks f__law_mixed.names d.params d.scope d.body = some f__law_mixed :=
  ⟨D[4]'(by decide +kernel), List.getElem_mem _, by kernel_rfl, by kernel_rfl, by kernel_rfl⟩
theorem t__law_rule : ∃ d ∈ D, d.name = ("_law_rule" : Str) ∧ d.params.defaults = [] ∧ cFun gl ks f__law_rule.names d.params d.scope d.body = some f__law_rule :=
  ⟨D[5]'(by decide +kernel), List.getElem_mem _, by kernel_rfl, by kernel_rfl, by kernel_rfl⟩
theorem t__law_step : ∃ d ∈ D, d.name = ("_law_step" : Str) ∧ d.params.defaults = [] ∧ cFun gl ks f__law_step.names d.params d.scope d.body = some f__law_step :=
  ⟨D[6]'(by decide +kernel), List.getElem_mem _, by kernel_rfl, by kernel_rfl, by kernel_rfl⟩
theorem t__law_is_spot : ∃ d ∈ D, d.name = ("_law_is_spot" : Str) ∧ d.params.defaults = [] ∧ cFun gl ks f__law_is_spot.names d.params d.scope d.body = some f__law_is_spot :=
  ⟨D[7]'(by decide +kernel), List.getElem_mem _, by kernel_rfl, by kernel_rfl, by kernel_rfl⟩
theorem t__law_nexts_good : ∃ d ∈ D, d.name = ("_law_nexts_good" : Str) ∧ d.params.defaults = [] ∧ cFun gl ks f__law_nexts_good.names d.params d.scope d.body = some f__law_nexts_good :=
  ⟨D[8]'(by decide +kernel), List.getElem_mem _, by kernel_rfl, by kernel_rfl, by kernel_rfl⟩
theorem t_law : ∃ d ∈ D, d.name = ("law" : Str) ∧ d.params.defaults = [] ∧ cFun gl ks f_law.names d.params d.scope d.body = some f_law :=
  ⟨D[9]'(by decide +kernel), List.getElem_mem _, by kernel_rfl, by kernel_rfl, by kernel_rfl⟩
end Law02
end

/-! E02 -/
section
open PySem PySem.W PyProof.Rows Mine Cm
set_option autoImplicit false
set_option maxRecDepth 100000
set_option maxHeartbeats 8000000
set_option linter.all false
namespace Law02
theorem n_len : ("len" : Str) ∉ (namesW hd02.view_39 []) ∧ ("len" : Str) ∉ bootMainNames ∧ ("len" : Str) ≠ "__name__" := by decide +kernel
theorem n_isinstance : ("isinstance" : Str) ∉ (namesW hd02.view_39 []) ∧ ("isinstance" : Str) ∉ bootMainNames ∧ ("isinstance" : Str) ≠ "__name__" := by decide +kernel
theorem n_list : ("list" : Str) ∉ (namesW hd02.view_39 []) ∧ ("list" : Str) ∉ bootMainNames ∧ ("list" : Str) ≠ "__name__" := by decide +kernel
theorem n_range : ("range" : Str) ∉ (namesW hd02.view_39 []) ∧ ("range" : Str) ∉ bootMainNames ∧ ("range" : Str) ≠ "__name__" := by decide +kernel
theorem n_enumerate : ("enumerate" : Str) ∉ (namesW hd02.view_39 []) ∧ ("enumerate" : Str) ∉ bootMainNames ∧ ("enumerate" : Str) ≠ "__name__" := by decide +kernel
theorem n_int : ("int" : Str) ∉ (namesW hd02.view_39 []) ∧ ("int" : Str) ∉ bootMainNames ∧ ("int" : Str) ≠ "__name__" := by decide +kernel
theorem n_bool : ("bool" : Str) ∉ (namesW hd02.view_39 []) ∧ ("bool" : Str) ∉ bootMainNames ∧ ("bool" : Str) ≠ "__name__" := by decide +kernel
theorem n_str : ("str" : Str) ∉ (namesW hd02.view_39 []) ∧ ("str" : Str) ∉ bootMainNames ∧ ("str" : Str) ≠ "__name__" := by decide +kernel
theorem n_tuple : ("tuple" : Str) ∉ (namesW hd02.view_39 []) ∧ ("tuple" : Str) ∉ bootMainNames ∧ ("tuple" : Str) ≠ "__name__" := by decide +kernel
theorem n_all : ("all" : Str) ∉ (namesW hd02.view_39 []) ∧ ("all" : Str) ∉ bootMainNames ∧ ("all" : Str) ≠ "__name__" := by decide +kernel
section
variable {prog : Program} {w : World} {mg mb : Str → Option Value} {s : Shared} {a : Addr} {o : Obj} {vs : Array Value} {k : Nat}
theorem std_of (GL : Glob 0 mg mb D (scalarsOf [] ++ constsW hd02.view_39) [] (namesW hd02.view_39 []) s.heap) : Std (cxOf prog w mg mb s.heap a gl ks) :=
  ⟨g_bi GL Boot.«isinstance» n_isinstance.1 n_isinstance.2.1 n_isinstance.2.2, g_bi GL Boot.«len» n_len.1 n_len.2.1 n_len.2.2, g_bi GL Boot.«all» n_all.1 n_all.2.1 n_all.2.2, g_bi GL Boot.«int» n_int.1 n_int.2.1 n_int.2.2, g_bi GL Boot.«bool» n_bool.1 n_bool.2.1 n_bool.2.2, g_bi GL Boot.«str» n_str.1 n_str.2.1 n_str.2.2, g_bi GL Boot.«tuple» n_tuple.1 n_tuple.2.1 n_tuple.2.2, g_bi GL Boot.«list» n_list.1 n_list.2.1 n_list.2.2⟩
theorem fns_of (GL : Glob 0 mg mb D (scalarsOf [] ++ constsW hd02.view_39) [] (namesW hd02.view_39 []) s.heap) (ha : s.heap.get? a = some o) (hc : o.cls = .type "list") (hd : o.data = .seq vs k) : Fns (cxOf prog w mg mb s.heap a gl ks) :=
  ⟨fn_of GL ha hc hd t_after, fn_of GL ha hc hd t_nexts, fn_of GL ha hc hd t__law_cell_at, fn_of GL ha hc hd t__law_signs, fn_of GL ha hc hd t__law_mixed, fn_of GL ha hc hd t__law_rule, fn_of GL ha hc hd t__law_step, fn_of GL ha hc hd t__law_is_spot, fn_of GL ha hc hd t__law_nexts_good, fn_of GL ha hc hd t_law⟩
theorem ok_of (GL : Glob 0 mg mb D (scalarsOf [] ++ constsW hd02.view_39) [] (namesW hd02.view_39 []) s.heap) (ha : s.heap.get? a = some o) (hd : o.data = .seq vs k) : CxOk (cxOf prog w mg mb s.heap a gl ks) := by
  refine cxOk_of GL ha hd (fun x hx => ?_) (fun x hx hg => ?_) (fun x p hx => ?_)
  · simp only [gl, List.mem_cons, List.not_mem_nil, or_false] at hx
    rcases hx with rfl | rfl | rfl | rfl | rfl | rfl | rfl | rfl | rfl | rfl | rfl | rfl | rfl | rfl | rfl | rfl | rfl | rfl | rfl
    · exact gok_b GL Boot.«len» n_len.1 n_len.2.1 n_len.2.2
    · exact gok_b GL Boot.«isinstance» n_isinstance.1 n_isinstance.2.1 n_isinstance.2.2
    · exact gok_t GL Boot.«list» n_list.1 n_list.2.1 n_list.2.2
    · exact gok_t GL Boot.«range» n_range.1 n_range.2.1 n_range.2.2
    · exact gok_t GL Boot.«enumerate» n_enumerate.1 n_enumerate.2.1 n_enumerate.2.2
    · exact gok_t GL Boot.«int» n_int.1 n_int.2.1 n_int.2.2
    · exact gok_t GL Boot.«bool» n_bool.1 n_bool.2.1 n_bool.2.2
    · exact gok_t GL Boot.«str» n_str.1 n_str.2.1 n_str.2.2
    · exact gok_t GL Boot.«tuple» n_tuple.1 n_tuple.2.1 n_tuple.2.2
    · exact gok_of GL ha hd t_after
    · exact gok_of GL ha hd t_nexts
    · exact gok_of GL ha hd t__law_cell_at
    · exact gok_of GL ha hd t__law_signs
    · exact gok_of GL ha hd t__law_mixed
    · exact gok_of GL ha hd t__law_rule
    · exact gok_of GL ha hd t__law_step
    · exact gok_of GL ha hd t__law_is_spot
    · exact gok_of GL ha hd t__law_nexts_good
    · exact gok_of GL ha hd t_law
  · simp only [bTypes, List.mem_cons, List.not_mem_nil, or_false] at hx
    rcases hx with rfl | rfl | rfl
    · exact g_bi GL Boot.«list» n_list.1 n_list.2.1 n_list.2.2
    · exact g_bi GL Boot.«enumerate» n_enumerate.1 n_enumerate.2.1 n_enumerate.2.2
    · exact g_bi GL Boot.«range» n_range.1 n_range.2.1 n_range.2.2
  · simp [ks] at hx
end
theorem holds : PySem.Challenge.rw_uf050029_02.Holds := by
  refine hd02 ?_
  intro w s0 s1 mg mb G Y fa o pm cd doc dV kV ho hd hcd hD hmg hg args vals as hpre hlay hrd hwl hlo
  have V := (Ground.X G).2
  have GL := glob_more (Ground.glob G (by first | k_qdec | decide +kernel) (by first | k_qdec | decide +kernel)) V
  wrow_args hpre hlay hrd hwl hlo
  rename_i a vs B hL ra wl r0 hI hr hc1 hc0
  obtain ⟨ob, hob, hcl, k, hdt⟩ := hL
  clear Y ho hd hcd hD ra wl r0 hr hc0 V
  have ok := ok_of (prog := PySem.Challenge.rw_uf050029_02.row.prog) (w := w) GL hob hdt
  have sd := std_of (prog := PySem.Challenge.rw_uf050029_02.row.prog) (w := w) (a := a) GL
  have fs := fns_of (prog := PySem.Challenge.rw_uf050029_02.row.prog) (w := w) GL hob hcl hdt
  refine law_end (n := 3) (x := "law") (gl := gl) (ks := ks) (mg := mg) (mb := mb) (fun _ => rfl) (by kernel_rfl) hob hcl hdt (by simpa using hI) hg ⟨by decide, by decide⟩ ?_ ?_
  · show (match mg "law" with | some v => some v | none => mb "law") = _
    have hm : mg "law" = some (.ref fa) := hmg
    rw [hm]
  · exact c_law ok sd fs (n := 0) (by simp [H0]) (by omega)
end Law02
end

theorem PySem.Challenge.cw_uf050029_02_holds : PySem.Challenge.rw_uf050029_02.Holds :=
  Law02.holds
