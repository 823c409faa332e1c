import PyProof.Rows.All
import Wide.All
import OpenK.AllK
import Wide.FinOn
import HandS.ForMost
import HandS.SortRule
import HandS.IsInst
import HandS.TupAny
import HandS.TupMul
import HandS.Walk
import HandS.More
import HandS.ListItems
import HandS.Wide
import KE.KTupSum
import HandS.Style
import HandS.Deep
import HandS.SortInts
import KE.GoesMore
import KE.KDictKeyed
import KE.KeyNested
import KE.SortData
import KE.KDictPairs
import KE.KEqNest
import HandS.TupSets
import PyProof.SetRoads
import HandS.TupLe
import PySem.Challenge.RW_endnever_k25_whole_papers_never_end
set_option Elab.async false
set_option maxRecDepth 100000
set_option maxHeartbeats 4000000
namespace E
open PySem L2
/-! ### small words of our own -/
theorem inr_int {x : V} {ns : List Int} {i : Nat} (h : (ns.map V.int)[i]? = some x) : ∃ z, x = V.int z ∧ ns[i]? = some z := by
  rw [List.getElem?_map] at h
  cases e : ns[i]? with
  | none => rw [e] at h; cases h
  | some z => rw [e] at h; exact ⟨z, (Option.some.inj h).symm, rfl⟩
/-- F stands in H, whatever comes to it -/
theorem sm_new {F H : Hp} {p : Addr} {o : HO} (s : Same F H) (n : H p = Option.none) : Same F (upd H p o) := fun b u e => by
  rw [upd_ne (ne_of_none (s b u e) n)]
  exact s b u e
theorem sm_up {H : Hp} {p : Addr} {o : HO} (n : H p = none) : Same H (upd H p o) := sm_new (Same.refl H) n
theorem cut_63 {ns : List Int} (h : ns.length ≤ 63) : cutV (ns.map V.int) none (some 63) = ns.map V.int := by
  unfold cutV
  have e1 : HT.sIx (ns.map V.int).length 0 none = 0 := rfl
  have e2 : HT.sIx (ns.map V.int).length (ns.map V.int).length (some 63) = (ns.map V.int).length := by
    simp only [HT.sIx, List.length_map]
    rw [if_neg (by decide), show (63 : Int).toNat = 63 from rfl]
    omega
  rw [e1, e2, List.drop_zero, Nat.sub_zero, List.take_length]
theorem ifT {c : Bool} {A B : Prop} (h : c = true) (a : A) : if c = true then A else B := by
  rw [if_pos h]; exact a
theorem ifF {c : Bool} {A B : Prop} (h : c = false) (b : B) : if c = true then A else B := by
  rw [h, if_neg Bool.false_ne_true]; exact b
theorem one_le : 1 ≤ sizeLine := by decide
theorem two_le : 2 ≤ sizeLine := by decide
theorem three_le : 3 ≤ sizeLine := by decide
theorem nil_le : 0 ≤ sizeLine := by decide
theorem lt_size {n : Nat} (h : n ≤ 1000000) : n < sizeLine := Nat.lt_of_le_of_lt h (by decide)
theorem le_size {n : Nat} (h : n ≤ 1000000) : n ≤ sizeLine := Nat.le_of_lt (lt_size h)
theorem pi_listK {X : Cx} {K : PySem.W.Frag} {tg l : Expr} {tl : TE} (e : X.K = K) (h : PE X l tl) : PI X tg l (iList K tl) := by
  subst e; exact pi_list h
theorem crK {X : Cx} {K : PySem.W.Frag} {f : Value} {r : PySem.W.Frag → List V → Hp → VK → Prop} (e : X.K = K) (h : CallR X f (r X.K)) : CallR X f (r K) := by
  subst e; exact h
def rLenQ (K : PySem.W.Frag) : List V → Hp → VK → Prop := fun xs H Q => ∃ p ys, xs = [.ref p] ∧ (SqL K H p ys ∨ SqT K H p ys) ∧ Q (.int ys.length) H
def rTupQ (K : PySem.W.Frag) : List V → Hp → VK → Prop := fun xs H Q => ∃ p ys, xs = [.ref p] ∧ ((SqL K H p ys ∧ ∀ l, H l = none → Q (.ref l) (upd H l (.tup ys))) ∨ (SqT K H p ys ∧ Q (.ref p) H))
theorem ne_of_none' {F H : Hp} {q : Addr} (s : Same F H) (n : H q = none) : F q = none := s.free n
/-- a comprehension without a test: its item comes in -/
theorem yes {σ : St} {H : Hp} {A : Hp → Prop} {B : Hp → Prop} (a : A H) : tYes σ H (fun b H3 => if b = true then A H3 else B H3) := by
  show if true = true then A H else B H
  rw [if_pos rfl]; exact a
theorem call_lenQ {X : Cx} : CallR X (.builtin "len") (rLenQ X.K) := call_len_seq
theorem call_tupQ {X : Cx} : CallR X (.type "tuple") (rTupQ X.K) := call_tuple_of
@[irreducible] def rDictP (K : PySem.W.Frag) : List V → Hp → VK → Prop := fun xs H Q => ∃ (a : Addr) (ps : List Addr) (kvs : List (Key × V)), xs = [.ref a] ∧ SqL K H a (ps.map V.ref) ∧ Paired (fun p kv => SqT K H p [kV kv.1, kv.2]) ps kvs ∧ ∀ p, H p = none → Q (.ref p) (upd H p (.dK (mergeK [] kvs)))
theorem call_dictQ {X : Cx} (hc : X.calm = true) : CallR X (.type "dict") (rDictP X.K) := by
  unfold rDictP
  exact call_dictP hc
@[irreducible] def rSortQ (K : PySem.W.Frag) : List V → Hp → VK → Prop := rSortedPO K
theorem call_sortQ {X : Cx} : CallR X (.builtin "sorted") (rSortQ X.K) := by
  unfold rSortQ
  exact cr_sortedPO
theorem pg_tupK {X : Cx} {K : PySem.W.Frag} {es : List Expr} {k n : Nat} {t : TGs} {pos : Pos} (e : X.K = K) (hc : X.calm = true) (h : PGs X es t) (hn : (assignEach es X.env).length = n := by rfl) (hst : (assignEach es X.env).findIdx? (·.1) = none := by rfl) : PG X (.Tuple es k pos) (gTup K n t) := by
  subst e; exact pg_tup hc h hn hst
/-! ### what stands, what is new: F the frozen part (nobody changes it), H the heap; from F, H to F', H' with changes at mu alone -/
structure Gr (mu : Addr → Prop) (F H F' H' : Hp) : Prop where
  ff : Same F F'
  fh : Same F' H'
  nw : ∀ c o, F' c = some o → F c = some o ∨ H c = none
  fr : ∀ c o, H c = some o → ¬ mu c → H' c = some o
  th : ∀ c, H' c = none → H c = none
/-- nothing but new things -/
abbrev mu0 : Addr → Prop := fun _ => False
/-- the purse alone -/
abbrev muP (p : Addr) : Addr → Prop := fun c => c = p
section
variable {mu : Addr → Prop} {F H F1 H1 F2 H2 : Hp} {q : Addr} {o u : HO}
theorem Gr.refl (s : Same F H) : Gr mu F H F H := ⟨fun _ _ h => h, s, fun _ _ h => .inl h, fun _ _ h _ => h, fun _ h => h⟩
theorem Gr.trans (a : Gr mu F H F1 H1) (b : Gr mu F1 H1 F2 H2) : Gr mu F H F2 H2 where
  ff := fun c o h => b.ff c o (a.ff c o h)
  fh := b.fh
  nw := fun c o h => by
    rcases b.nw c o h with h | h
    · exact a.nw c o h
    · exact .inr (a.th c h)
  fr := fun c o h m => b.fr c o (a.fr c o h m) m
  th := fun c h => a.th c (b.th c h)
/-- a part that changes what is ours, or what mu has -/
theorem Gr.thn {mu' : Addr → Prop} (a : Gr mu F H F1 H1) (b : Gr mu' F1 H1 F2 H2) (k : ∀ c, mu' c → mu c ∨ H c = none) : Gr mu F H F2 H2 where
  ff := fun c o h => b.ff c o (a.ff c o h)
  fh := b.fh
  nw := fun c o h => by
    rcases b.nw c o h with h | h
    · exact a.nw c o h
    · exact .inr (a.th c h)
  fr := fun c o h m => b.fr c o (a.fr c o h m) fun z => (k c z).elim m fun n => by rw [n] at h; cases h
  th := fun c h => a.th c (b.th c h)
theorem Gr.weak {mu' : Addr → Prop} (a : Gr mu F H F1 H1) (m : ∀ c, mu c → mu' c) : Gr mu' F H F1 H1 :=
  ⟨a.ff, a.fh, a.nw, fun c o h n => a.fr c o h fun z => n (m c z), a.th⟩
/-- a new thing that nobody will change -/
theorem Gr.new (a : Gr mu F H F1 H1) (n : H1 q = none) : Gr mu F H (upd F1 q o) (upd H1 q o) where
  ff := fun c o h => by
    rw [upd_ne (ne_of_none (a.fh c o (a.ff c o h)) n)]
    exact a.ff c o h
  fh := fun c u h => by
    by_cases e : c = q
    · subst e; rw [upd_same] at h ⊢; exact h
    · rw [upd_ne e] at h ⊢; exact a.fh c u h
  nw := fun c u h => by
    by_cases e : c = q
    · subst e; exact .inr (a.th _ n)
    · rw [upd_ne e] at h; exact a.nw c u h
  fr := fun c u h m => by
    rw [upd_ne (ne_of_none (a.fr c u h m) n)]
    exact a.fr c u h m
  th := fun c h => by
    by_cases e : c = q
    · subst e; rw [upd_same] at h; cases h
    · rw [upd_ne e] at h; exact a.th c h
/-- a new thing that may be changed yet -/
theorem Gr.own (a : Gr mu F H F1 H1) (n : H1 q = none) : Gr mu F H F1 (upd H1 q o) where
  ff := a.ff
  fh := fun c u h => by
    rw [upd_ne (ne_of_none (a.fh c u h) n)]
    exact a.fh c u h
  nw := a.nw
  fr := fun c u h m => by
    rw [upd_ne (ne_of_none (a.fr c u h m) n)]
    exact a.fr c u h m
  th := fun c h => by
    by_cases e : c = q
    · subst e; rw [upd_same] at h; cases h
    · rw [upd_ne e] at h; exact a.th c h
/-- a change of what is ours, and not frozen -/
theorem Gr.set (a : Gr mu F H F1 H1) (f : F1 q = none) (m : H q = none ∨ mu q) : Gr mu F H F1 (upd H1 q o) where
  ff := a.ff
  fh := fun c u h => by
    rw [upd_ne (ne_of_none h f)]
    exact a.fh c u h
  nw := a.nw
  fr := fun c u h k => by
    have e : c ≠ q := by
      rintro rfl
      rcases m with m | m
      · rw [m] at h; cases h
      · exact k m
    rw [upd_ne e]
    exact a.fr c u h k
  th := fun c h => by
    by_cases e : c = q
    · subst e; rw [upd_same] at h; cases h
    · rw [upd_ne e] at h; exact a.th c h
/-- what was ours is changed no more -/
theorem Gr.frz (a : Gr mu F H F1 H1) (h : H1 q = some o) (n : H q = none) (f : F1 q = none) : Gr mu F H (upd F1 q o) H1 where
  ff := fun c u e => by
    rw [upd_ne (ne_of_none (a.ff c u e) f)]
    exact a.ff c u e
  fh := fun c u e => by
    by_cases k : c = q
    · subst k; rw [upd_same] at e; cases e; exact h
    · rw [upd_ne k] at e; exact a.fh c u e
  nw := fun c u e => by
    by_cases k : c = q
    · subst k; exact .inr n
    · rw [upd_ne k] at e; exact a.nw c u e
  fr := a.fr
  th := a.th
theorem Gr.free (a : Gr mu F H F1 H1) (n : H1 q = none) : F1 q = none := a.fh.free n
end
/-- an owned thing: new since H, not frozen, it is o now -/
structure Ow (H F H1 : Hp) (q : Addr) (o : HO) : Prop where
  n : H q = none
  f : F q = none
  h : H1 q = some o
section
variable {mu mu' : Addr → Prop} {H0 F H F1 H1 : Hp} {q r : Addr} {o u : HO}
theorem Ow.call (w : Ow H0 F H q o) (a : Gr mu F H F1 H1) (m : ¬ mu q) : Ow H0 F1 H1 q o :=
  ⟨w.n, (by
    cases e : F1 q with
    | none => rfl
    | some z =>
      rcases a.nw q z e with k | k
      · rw [w.f] at k; cases k
      · rw [w.h] at k; cases k), a.fr q o w.h m⟩
theorem Ow.ne (w : Ow H0 F H q o) (n : H r = none) : q ≠ r := ne_of_none w.h n
theorem Ow.new (w : Ow H0 F H q o) (n : H r = none) : Ow H0 (upd F r u) (upd H r u) q o :=
  ⟨w.n, by rw [upd_ne (w.ne n)]; exact w.f, by rw [upd_ne (w.ne n)]; exact w.h⟩
theorem Ow.own (w : Ow H0 F H q o) (n : H r = none) : Ow H0 F (upd H r u) q o :=
  ⟨w.n, w.f, by rw [upd_ne (w.ne n)]; exact w.h⟩
theorem Ow.mk1 (a : Gr mu H0' H0 F H) (n : H q = none) : Ow H0 F (upd H q o) q o := ⟨a.th q n, a.free n, upd_same⟩
theorem Ow.set (w : Ow H0 F H q o) : Ow H0 F (upd H q u) q u := ⟨w.n, w.f, upd_same⟩
theorem Ow.other (w : Ow H0 F H q o) (e : q ≠ r) : Ow H0 F (upd H r u) q o := ⟨w.n, w.f, by rw [upd_ne e]; exact w.h⟩
end
/-! ### what stands for a datum -/
def All2 {α β : Type} (r : α → β → Prop) (xs : List α) (ys : List β) : Prop := xs.length = ys.length ∧ ∀ (i : Nat) (x : α) (y : β), xs[i]? = some x → ys[i]? = some y → r x y
section
variable {α β : Type} {r s : α → β → Prop} {xs xs' : List α} {ys ys' : List β}
theorem All2.nil : All2 r [] [] := ⟨rfl, fun i x y h => by simp at h⟩
theorem All2.get (a : All2 r xs ys) {i : Nat} {y : β} (h : ys[i]? = some y) : ∃ x, xs[i]? = some x ∧ r x y := by
  have l := (List.getElem?_eq_some_iff.mp h).1
  have l' : i < xs.length := by rw [a.1]; exact l
  exact ⟨xs[i], List.getElem?_eq_getElem l', a.2 i _ y (List.getElem?_eq_getElem l') h⟩
theorem All2.get' (a : All2 r xs ys) {i : Nat} {x : α} (h : xs[i]? = some x) : ∃ y, ys[i]? = some y ∧ r x y := by
  have l := (List.getElem?_eq_some_iff.mp h).1
  have l' : i < ys.length := by rw [← a.1]; exact l
  exact ⟨ys[i], List.getElem?_eq_getElem l', a.2 i x _ h (List.getElem?_eq_getElem l')⟩
theorem All2.imp (a : All2 r xs ys) (f : ∀ x y, r x y → s x y) : All2 s xs ys := ⟨a.1, fun i x y h k => f x y (a.2 i x y h k)⟩
theorem All2.app (a : All2 r xs ys) (b : All2 r xs' ys') : All2 r (xs ++ xs') (ys ++ ys') := by
  refine ⟨by rw [List.length_append, List.length_append, a.1, b.1], fun i x y h k => ?_⟩
  by_cases l : i < xs.length
  · rw [List.getElem?_append_left l] at h
    rw [List.getElem?_append_left (by rw [← a.1]; exact l)] at k
    exact a.2 i x y h k
  · rw [List.getElem?_append_right (by omega)] at h
    rw [List.getElem?_append_right (by rw [← a.1]; omega), ← a.1] at k
    exact b.2 _ x y h k
theorem All2.one {x : α} {y : β} (h : r x y) : All2 r [x] [y] := ⟨rfl, fun i a b p q => by
  cases i with
  | zero => simp at p q; subst p; subst q; exact h
  | succ n => simp at p⟩
theorem All2.cons {x : α} {y : β} (h : r x y) (a : All2 r xs ys) : All2 r (x :: xs) (y :: ys) := (All2.one h).app a
theorem All2.set (a : All2 r xs ys) {x : α} {y : β} (h : r x y) (j : Nat) : All2 r (xs.set j x) (ys.set j y) := by
  refine ⟨by rw [List.length_set, List.length_set]; exact a.1, fun i u v p q => ?_⟩
  by_cases e : j = i
  · subst e
    rw [List.getElem?_set_self'] at p q
    cases e1 : xs[j]? with
    | none => rw [e1] at p; cases p
    | some z =>
      cases e2 : ys[j]? with
      | none => rw [e2] at q; cases q
      | some z2 =>
        rw [e1] at p; rw [e2] at q
        cases p; cases q
        exact h
  · rw [List.getElem?_set_ne e] at p q
    exact a.2 i u v p q
theorem All2.take (a : All2 r xs ys) (n : Nat) : All2 r (xs.take n) (ys.take n) := by
  refine ⟨by rw [List.length_take, List.length_take, a.1], fun i u v p q => ?_⟩
  rw [List.getElem?_take] at p q
  split at p
  · rw [if_pos (by assumption)] at q; exact a.2 i u v p q
  · cases p
theorem All2.drop (a : All2 r xs ys) (n : Nat) : All2 r (xs.drop n) (ys.drop n) := by
  refine ⟨by rw [List.length_drop, List.length_drop, a.1], fun i u v p q => ?_⟩
  rw [List.getElem?_drop] at p q
  exact a.2 _ u v p q
end
class Dat (α : Type) where
  rep : Hp → V → α → Prop
  mono : ∀ {H H' : Hp} {v : V} {d : α}, Same H H' → rep H v d → rep H' v d
  py : α → PyData
  dp : ∀ {K : PySem.W.Frag} {H : Hp} {v : V} {d : α}, rep H v d → Dp K H v (py d)
  can : ∀ d, (py d).canLay0 = true
  dep : Nat
  depth : ∀ d, (py d).depth ≤ dep
  eqv : ∀ a b, PyData.eqv (py a) (py b) = true ↔ a = b
section
variable {α β γ : Type}
/-- v stands for d in H -/
abbrev Is [Dat α] (H : Hp) (v : V) (d : α) : Prop := Dat.rep H v d
theorem Is.up [Dat α] {H H' : Hp} {v : V} {d : α} (h : Is H v d) (s : Same H H') : Is H' v d := Dat.mono s h
abbrev IsAll [Dat α] (H : Hp) (xs : List V) (ds : List α) : Prop := All2 (fun v d => Is H v d) xs ds
theorem IsAll.up [Dat α] {H H' : Hp} {xs : List V} {ds : List α} (h : IsAll H xs ds) (s : Same H H') : IsAll H' xs ds := h.imp fun _ _ z => Is.up z s
theorem dp_all [Dat α] {K : PySem.W.Frag} {H : Hp} : ∀ {xs : List V} {ds : List α}, IsAll H xs ds → DpAll K H xs (ds.map Dat.py)
  | [], [], _ => .nil
  | [], d :: ds, h => by have := h.1; simp at this
  | x :: xs, [], h => by have := h.1; simp at this
  | x :: xs, d :: ds, h => .cons (Dat.dp (h.2 0 x d rfl rfl)) (dp_all ⟨by have := h.1; simpa using this, fun i a b p q => h.2 (i + 1) a b (by simpa using p) (by simpa using q)⟩)
theorem can_all [Dat α] : ∀ ds : List α, PyData.canLayAll0 (ds.map Dat.py) = true
  | [] => rfl
  | d :: ds => by
    show (PyData.canLay0 (Dat.py d) && PyData.canLayAll0 (ds.map Dat.py)) = true
    rw [Dat.can, can_all ds]; rfl
theorem depth_all [Dat α] : ∀ ds : List α, PyData.depthAll (ds.map Dat.py) ≤ Dat.dep α
  | [] => Nat.zero_le _
  | d :: ds => by
    show max (PyData.depth (Dat.py d)) (PyData.depthAll (ds.map Dat.py)) ≤ _
    exact Nat.max_le.mpr ⟨Dat.depth d, depth_all ds⟩
theorem eqv_all [Dat α] : ∀ a b : List α, PyData.eqvAll (a.map Dat.py) (b.map Dat.py) = true ↔ a = b
  | [], [] => by simp [PyData.eqvAll]
  | [], _ :: _ => by simp [PyData.eqvAll]
  | _ :: _, [] => by simp [PyData.eqvAll]
  | x :: xs, y :: ys => by
    rw [List.map_cons, List.map_cons, PyData.eqvAll, Bool.and_eq_true, Dat.eqv, eqv_all xs ys, List.cons.injEq]
instance : Dat Int where
  rep := fun _ v i => v = .int i
  mono := fun _ h => h
  py := .int
  dp := fun h => h ▸ .int _
  can := fun _ => rfl
  dep := 0
  depth := fun _ => Nat.le_refl _
  eqv := fun a b => by simp [PyData.eqv]
instance : Dat Bool where
  rep := fun _ v i => v = .bl i
  mono := fun _ h => h
  py := .bool
  dp := fun h => h ▸ .bl _
  can := fun _ => rfl
  dep := 0
  depth := fun _ => Nat.le_refl _
  eqv := fun a b => by simp [PyData.eqv]
/-- a list of data -/
instance [Dat α] : Dat (List α) where
  rep := fun H v l => ∃ a xs, v = .ref a ∧ H a = some (.lst xs) ∧ IsAll H xs l
  mono := fun s h => by
    obtain ⟨a, xs, e, h, i⟩ := h
    exact ⟨a, xs, e, s _ _ h, IsAll.up i s⟩
  py := fun l => .list (l.map Dat.py)
  dp := fun h => by
    obtain ⟨a, xs, rfl, h, i⟩ := h
    exact .lst (SqL.of h) (dp_all i)
  can := fun d => can_all d
  dep := Dat.dep α + 1
  depth := fun d => Nat.succ_le_succ (depth_all d)
  eqv := fun a b => by rw [PyData.eqv]; exact eqv_all a b
/-- a tuple of data of one kind -/
structure Tup (α : Type) where
  l : List α
  deriving DecidableEq
instance [Dat α] : Dat (Tup α) where
  rep := fun H v l => ∃ a xs, v = .ref a ∧ H a = some (.tup xs) ∧ IsAll H xs l.l
  mono := fun s h => by
    obtain ⟨a, xs, e, h, i⟩ := h
    exact ⟨a, xs, e, s _ _ h, IsAll.up i s⟩
  py := fun l => .tuple (l.l.map Dat.py)
  dp := fun h => by
    obtain ⟨a, xs, rfl, h, i⟩ := h
    exact .tup (SqT.of h) (dp_all i)
  can := fun d => can_all d.l
  dep := Dat.dep α + 1
  depth := fun d => Nat.succ_le_succ (depth_all d.l)
  eqv := fun a b => by
    rw [PyData.eqv, eqv_all]
    obtain ⟨a⟩ := a; obtain ⟨b⟩ := b
    simp
/-- a pair; a triple -/
structure T2 (α β : Type) where
  a : α
  b : β
  deriving DecidableEq
structure T3 (α β γ : Type) where
  a : α
  b : β
  c : γ
  deriving DecidableEq
instance [Dat α] [Dat β] : Dat (T2 α β) where
  rep := fun H v d => ∃ p x y, v = .ref p ∧ H p = some (.tup [x, y]) ∧ Is H x d.a ∧ Is H y d.b
  mono := fun s h => by
    obtain ⟨p, x, y, e, h, i, j⟩ := h
    exact ⟨p, x, y, e, s _ _ h, Is.up i s, Is.up j s⟩
  py := fun d => .tuple [Dat.py d.a, Dat.py d.b]
  dp := fun h => by
    obtain ⟨p, x, y, rfl, h, i, j⟩ := h
    exact .tup (SqT.of h) (.cons (Dat.dp i) (.cons (Dat.dp j) .nil))
  can := fun d => by
    show (PyData.canLay0 (Dat.py d.a) && (PyData.canLay0 (Dat.py d.b) && true)) = true
    rw [Dat.can, Dat.can]; rfl
  dep := max (Dat.dep α) (Dat.dep β) + 1
  depth := fun d => by
    have h1 := Dat.depth d.a
    have h2 := Dat.depth d.b
    show max (PyData.depth (Dat.py d.a)) (max (PyData.depth (Dat.py d.b)) 0) + 1 ≤ _
    omega
  eqv := fun a b => by
    obtain ⟨a, a'⟩ := a; obtain ⟨b, b'⟩ := b
    simp [PyData.eqv, PyData.eqvAll, Dat.eqv]
instance [Dat α] [Dat β] [Dat γ] : Dat (T3 α β γ) where
  rep := fun H v d => ∃ p x y z, v = .ref p ∧ H p = some (.tup [x, y, z]) ∧ Is H x d.a ∧ Is H y d.b ∧ Is H z d.c
  mono := fun s h => by
    obtain ⟨p, x, y, z, e, h, i, j, k⟩ := h
    exact ⟨p, x, y, z, e, s _ _ h, Is.up i s, Is.up j s, Is.up k s⟩
  py := fun d => .tuple [Dat.py d.a, Dat.py d.b, Dat.py d.c]
  dp := fun h => by
    obtain ⟨p, x, y, z, rfl, h, i, j, k⟩ := h
    exact .tup (SqT.of h) (.cons (Dat.dp i) (.cons (Dat.dp j) (.cons (Dat.dp k) .nil)))
  can := fun d => by
    show (PyData.canLay0 (Dat.py d.a) && (PyData.canLay0 (Dat.py d.b) && (PyData.canLay0 (Dat.py d.c) && true))) = true
    rw [Dat.can, Dat.can, Dat.can]; rfl
  dep := max (Dat.dep α) (max (Dat.dep β) (Dat.dep γ)) + 1
  depth := fun d => by
    have h1 := Dat.depth d.a
    have h2 := Dat.depth d.b
    have h3 := Dat.depth d.c
    show max (PyData.depth (Dat.py d.a)) (max (PyData.depth (Dat.py d.b)) (max (PyData.depth (Dat.py d.c)) 0)) + 1 ≤ _
    omega
  eqv := fun a b => by
    obtain ⟨a, a', a''⟩ := a; obtain ⟨b, b', b''⟩ := b
    simp [PyData.eqv, PyData.eqvAll, Dat.eqv]
/-- None, or a datum that is a tuple or a list -/
class Big (α : Type) [Dat α] : Prop where
  big : ∀ d : α, (∃ l, Dat.py d = .tuple l) ∨ ∃ l, Dat.py d = .list l
instance [Dat α] : Big (List α) := ⟨fun d => .inr ⟨_, rfl⟩⟩
instance [Dat α] : Big (Tup α) := ⟨fun d => .inl ⟨_, rfl⟩⟩
instance [Dat α] [Dat β] : Big (T2 α β) := ⟨fun d => .inl ⟨_, rfl⟩⟩
instance [Dat α] [Dat β] [Dat γ] : Big (T3 α β γ) := ⟨fun d => .inl ⟨_, rfl⟩⟩
instance [Dat α] [Big α] : Dat (Option α) where
  rep := fun H v d => match d with
    | none => v = .non
    | some d => Is H v d
  mono := fun {H H' v d} s h => by
    cases d with
    | none => exact h
    | some d => exact Is.up (show Is H v d from h) s
  py := fun d => match d with
    | none => .none
    | some d => Dat.py d
  dp := fun {K H v d} h => by
    cases d with
    | none => cases h; exact .non
    | some d => exact Dat.dp (show Is H v d from h)
  can := fun d => by
    cases d with
    | none => rfl
    | some d => exact Dat.can d
  dep := Dat.dep α
  depth := fun d => by
    cases d with
    | none => exact Nat.zero_le _
    | some d => exact Dat.depth d
  eqv := fun a b => by
    cases a with
    | none =>
      cases b with
      | none => exact ⟨fun _ => rfl, fun _ => rfl⟩
      | some b =>
        refine ⟨fun h => ?_, fun h => nomatch h⟩
        have h : PyData.eqv .none (Dat.py b) = true := h
        rcases Big.big b with ⟨l, e⟩ | ⟨l, e⟩ <;> (rw [e] at h; simp only [PyData.eqv] at h; cases h)
    | some a =>
      cases b with
      | none =>
        refine ⟨fun h => ?_, fun h => nomatch h⟩
        have h : PyData.eqv (Dat.py a) .none = true := h
        rcases Big.big a with ⟨l, e⟩ | ⟨l, e⟩ <;> (rw [e] at h; simp only [PyData.eqv] at h; cases h)
      | some b =>
        show PyData.eqv (Dat.py a) (Dat.py b) = true ↔ _
        rw [Dat.eqv, Option.some.injEq]
end
/-- == and != of data -/
theorem eq_dat0 {α : Type} [Dat α] [DecidableEq α] {a b : α} (hd : Dat.dep α ≤ 64) : SeqAt.shaped (Dat.py a) = true ∧ SeqAt.shaped (Dat.py b) = true ∧ PyData.eqv (Dat.py a) (Dat.py b) = decide (a = b) := by
  refine ⟨?_, ?_, ?_⟩
  · show (PyData.canLay0 _ && decide _) = true
    rw [Dat.can, decide_eq_true (Nat.le_trans (Dat.depth a) hd)]; rfl
  · show (PyData.canLay0 _ && decide _) = true
    rw [Dat.can, decide_eq_true (Nat.le_trans (Dat.depth b) hd)]; rfl
  · rw [Bool.eq_iff_iff, Dat.eqv, decide_eq_true_iff]
theorem eq_dat {α : Type} [Dat α] [DecidableEq α] {K : PySem.W.Frag} {H : Hp} {x y : V} {a b : α} {Q : VK} (ha : Is H x a) (hb : Is H y b) (q : Q (.bl (decide (a = b))) H) (hd : Dat.dep α ≤ 64 := by decide) : rEqD K x y H Q := by
  obtain ⟨h1, h2, h3⟩ := eq_dat0 (a := a) (b := b) hd
  exact ⟨Dat.py a, Dat.py b, Dat.dp ha, Dat.dp hb, h1, h2, by rw [h3]; exact q⟩
theorem ne_dat {α : Type} [Dat α] [DecidableEq α] {K : PySem.W.Frag} {H : Hp} {x y : V} {a b : α} {Q : VK} (ha : Is H x a) (hb : Is H y b) (q : Q (.bl (!decide (a = b))) H) (hd : Dat.dep α ≤ 64 := by decide) : rNeD K x y H Q := by
  obtain ⟨h1, h2, h3⟩ := eq_dat0 (a := a) (b := b) hd
  exact ⟨Dat.py a, Dat.py b, Dat.dp ha, Dat.dp hb, h1, h2, by rw [h3]; exact q⟩
/-! ### machines -/
/-- an entry -/
inductive Ent where
  | emp
  | go (put way row : Int)
  deriving DecidableEq
def entO : Ent → HO
  | .emp => .tup []
  | .go p w r => .tup [.int p, .int w, .int r]
def entP : Ent → PyData
  | .emp => .tuple []
  | .go p w r => .tuple [.int p, .int w, .int r]
instance : Dat Ent where
  rep := fun H v e => ∃ a, v = .ref a ∧ H a = some (entO e)
  mono := fun s h => by obtain ⟨a, e, h⟩ := h; exact ⟨a, e, s _ _ h⟩
  py := entP
  dp := fun {K H v d} h => by
    obtain ⟨a, rfl, h⟩ := h
    cases d with
    | emp => exact .tup (SqT.of h) .nil
    | go p w r => exact .tup (SqT.of h) (.cons (.int _) (.cons (.int _) (.cons (.int _) .nil)))
  can := fun d => by cases d <;> rfl
  dep := 1
  depth := fun d => by cases d <;> simp [entP, PyData.depth, PyData.depthAll]
  eqv := fun a b => by cases a <;> cases b <;> simp [entP, PyData.eqv, PyData.eqvAll]
instance : Big Ent := ⟨fun d => by cases d <;> exact .inl ⟨_, rfl⟩⟩
abbrev Mach := List (List Ent)
/-! ### pairs of ints: a dict's items, sorted ones -/
abbrev PI := T2 Int Int
def dI (l : List PI) : List (Key × V) := l.map fun p => (Sum.inl p.a, V.int p.b)
def look (l : List PI) (x : Int) : Option Int := (l.find? fun p => decide (p.a = x)).map (·.b)
def put (l : List PI) (x v : Int) : List PI := if (l.any fun p => decide (p.a = x)) = true then l.map (fun p => if p.a = x then ⟨p.a, v⟩ else p) else l ++ [⟨x, v⟩]
def merge (l m : List PI) : List PI := m.foldl (fun acc p => put acc p.a p.b) l
theorem key_inl (a b : Int) : ((Sum.inl a : Key) = Sum.inl b) = (a = b) := propext ⟨Sum.inl.inj, fun h => by rw [h]⟩
theorem dI_val (x : Int) : ∀ l : List PI, valV (dI l) (Sum.inl x) = (look l x).map V.int
  | [] => rfl
  | p :: l => by
    have ih := dI_val x l
    show valV ((Sum.inl p.a, V.int p.b) :: dI l) (Sum.inl x) = _
    by_cases e : p.a = x
    · rw [valV_pos (by rw [key_inl]; exact e)]
      simp [look, e]
    · rw [valV_neg (by rw [key_inl]; exact e), ih]
      simp [look, e]
theorem dI_put (l : List PI) (x v : Int) : putK (dI l) (Sum.inl x) (.int v) = dI (put l x v) := by
  have e : ((dI l).any fun kv => decide (kv.1 = Sum.inl x)) = (l.any fun p => decide (p.a = x)) := by
    unfold dI
    rw [List.any_map]
    congr 1
    funext p
    simp only [Function.comp, key_inl]
  unfold putK put
  rw [e]
  by_cases a : (l.any fun p => decide (p.a = x)) = true
  · rw [if_pos a, if_pos a]
    unfold dI
    rw [List.map_map, List.map_map]
    congr 1
    funext p
    simp only [Function.comp, key_inl]
    by_cases h : p.a = x
    · rw [if_pos h, if_pos h]
    · rw [if_neg h, if_neg h]
  · rw [if_neg a, if_neg a]
    unfold dI
    rw [List.map_append]
    rfl
theorem dI_merge (m : List PI) : ∀ l : List PI, mergeK (dI l) (dI m) = dI (merge l m) := by
  induction m with
  | nil => intro l; rfl
  | cons p m ih =>
    intro l
    show mergeK (putK (dI l) (Sum.inl p.a) (.int p.b)) (dI m) = dI (merge (put l p.a p.b) m)
    rw [dI_put]
    exact ih _
theorem look_nil (x : Int) : look [] x = none := rfl
theorem look_cons (p : PI) (l : List PI) (x : Int) : look (p :: l) x = if p.a = x then some p.b else look l x := by
  unfold look
  rw [List.find?_cons]
  by_cases e : p.a = x
  · simp [e]
  · simp [e]
theorem look_any (x : Int) : ∀ l : List PI, (l.any fun p => decide (p.a = x)) = (look l x).isSome
  | [] => rfl
  | p :: l => by
    rw [List.any_cons, look_any x l, look_cons]
    by_cases e : p.a = x
    · simp [e]
    · simp [e]
theorem look_map (x y v : Int) : ∀ l : List PI, look (l.map fun p => if p.a = x then ⟨p.a, v⟩ else p) y = (look l y).map fun z => if y = x then v else z
  | [] => rfl
  | p :: l => by
    rw [List.map_cons, look_cons, look_cons, look_map x y v l]
    by_cases e : p.a = x
    · rw [if_pos e]
      by_cases f : p.a = y
      · rw [if_pos f, if_pos f]
        rw [← f, Option.map_some, if_pos e]
      · rw [if_neg f, if_neg f]
    · rw [if_neg e]
      by_cases f : p.a = y
      · rw [if_pos f, if_pos f, Option.map_some, if_neg (by rw [← f]; exact e)]
      · rw [if_neg f, if_neg f]
theorem look_app (l m : List PI) (x : Int) : look (l ++ m) x = (look l x).or (look m x) := by
  induction l with
  | nil => rfl
  | cons p l ih =>
    rw [List.cons_append, look_cons, look_cons, ih]
    by_cases e : p.a = x
    · rw [if_pos e, if_pos e]; rfl
    · rw [if_neg e, if_neg e]
theorem look_put (l : List PI) (x v y : Int) : look (put l x v) y = if y = x then some v else look l y := by
  unfold put
  by_cases a : (l.any fun p => decide (p.a = x)) = true
  · rw [if_pos a, look_map]
    by_cases e : y = x
    · rw [if_pos e, e]
      rw [look_any] at a
      obtain ⟨z, hz⟩ := Option.isSome_iff_exists.mp a
      rw [hz, Option.map_some, if_pos rfl]
    · rw [if_neg e]
      cases look l y with
      | none => rfl
      | some z => rw [Option.map_some, if_neg e]
  · rw [if_neg a, look_app]
    rw [look_any] at a
    by_cases e : y = x
    · rw [if_pos e, e]
      cases h : look l x with
      | none => rw [look_cons, if_pos rfl]; rfl
      | some z => rw [h] at a; exact absurd rfl a
    · rw [if_neg e, look_cons, if_neg (fun z => e z.symm), look_nil]
      cases look l y <;> rfl
/-- no place twice -/
def Nd (l : List PI) : Prop := (l.map (·.a)).Nodup
theorem look_none {l : List PI} {x : Int} : look l x = none ↔ x ∉ l.map (·.a) := by
  induction l with
  | nil => simp [look_nil]
  | cons p l ih =>
    rw [look_cons, List.map_cons, List.mem_cons]
    by_cases e : p.a = x
    · rw [if_pos e]; simp [e]
    · rw [if_neg e, ih]
      constructor
      · intro h z
        rcases z with z | z
        · exact e z.symm
        · exact h z
      · intro h z
        exact h (.inr z)
theorem look_mem {l : List PI} (h : Nd l) {p : PI} (m : p ∈ l) : look l p.a = some p.b := by
  induction l with
  | nil => cases m
  | cons q l ih =>
    have h' := List.nodup_cons.mp h
    rw [look_cons]
    rcases List.mem_cons.mp m with rfl | m
    · rw [if_pos rfl]
    · rw [if_neg (fun e => h'.1 (by show q.a ∈ _; rw [e]; exact List.mem_map.mpr ⟨p, m, rfl⟩))]
      exact ih h'.2 m
theorem mem_look {l : List PI} {x v : Int} (h : look l x = some v) : (⟨x, v⟩ : PI) ∈ l := by
  induction l with
  | nil => cases h
  | cons q l ih =>
    rw [look_cons] at h
    by_cases e : q.a = x
    · rw [if_pos e] at h
      cases h
      subst e
      exact List.mem_cons_self
    · rw [if_neg e] at h
      exact List.mem_cons_of_mem _ (ih h)
theorem nd_put {l : List PI} (h : Nd l) (x v : Int) : Nd (put l x v) := by
  unfold put
  by_cases a : (l.any fun p => decide (p.a = x)) = true
  · rw [if_pos a]
    unfold Nd
    rw [List.map_map]
    have e : ((fun p : PI => p.a) ∘ fun p : PI => if p.a = x then (⟨p.a, v⟩ : PI) else p) = fun p : PI => p.a := by
      funext p
      simp only [Function.comp]
      split <;> rfl
    rw [e]; exact h
  · rw [if_neg a]
    unfold Nd
    rw [List.map_append]
    refine nd_snoc h ?_
    rw [look_any] at a
    refine look_none.mp ?_
    cases q : look l x with
    | none => rfl
    | some z => rw [q] at a; exact absurd rfl a
theorem put_new {l : List PI} {x : Int} (v : Int) (h : look l x = none) : put l x v = l ++ [⟨x, v⟩] := by
  unfold put
  rw [look_any, h]
  rfl
theorem nd_nil : Nd [] := List.nodup_nil
theorem put_len (l : List PI) (x v : Int) : (put l x v).length ≤ l.length + 1 := by
  unfold put
  split
  · rw [List.length_map]; omega
  · rw [List.length_append]; exact Nat.le_refl _
/-- Python's order of pairs -/
def leP (p q : PI) : Bool := decide (p.a < q.a) || (decide (p.a = q.a) && decide (p.b ≤ q.b))
theorem leP_iff {p q : PI} : leP p q = true ↔ p.a < q.a ∨ (p.a = q.a ∧ p.b ≤ q.b) := by simp [leP]
def ins (p : PI) : List PI → List PI
  | [] => [p]
  | q :: l => if leP p q = true then p :: q :: l else q :: ins p l
def srt (l : List PI) : List PI := l.foldr ins []
theorem ins_perm (p : PI) : ∀ l : List PI, (ins p l).Perm (p :: l)
  | [] => List.Perm.refl _
  | q :: l => by
    unfold ins
    split
    · exact List.Perm.refl _
    · exact (List.Perm.cons q (ins_perm p l)).trans (List.Perm.swap p q l)
theorem srt_perm : ∀ l : List PI, (srt l).Perm l
  | [] => List.Perm.refl _
  | p :: l => (ins_perm p (srt l)).trans ((srt_perm l).cons p)
abbrev LeP (p q : PI) : Prop := leP p q = true
theorem leP_trans {p q r : PI} (h1 : LeP p q) (h2 : LeP q r) : LeP p r := by
  have a := leP_iff.mp h1
  have b := leP_iff.mp h2
  exact leP_iff.mpr (by omega)
theorem leP_total (p q : PI) : LeP p q ∨ LeP q p := by
  show leP p q = true ∨ leP q p = true
  rw [leP_iff, leP_iff]
  omega
theorem ins_srt (p : PI) : ∀ {l : List PI}, l.Pairwise LeP → (ins p l).Pairwise LeP
  | [], _ => List.pairwise_singleton _ _
  | q :: l, h => by
    have h' := List.pairwise_cons.mp h
    unfold ins
    split
    · rename_i e
      refine List.pairwise_cons.mpr ⟨fun x m => ?_, h⟩
      rcases List.mem_cons.mp m with rfl | m
      · exact e
      · exact leP_trans e (h'.1 x m)
    · rename_i e
      refine List.pairwise_cons.mpr ⟨fun x m => ?_, ins_srt p h'.2⟩
      rcases List.mem_cons.mp ((ins_perm p l).mem_iff.mp m) with rfl | m
      · rcases leP_total q x with z | z
        · exact z
        · exact absurd z e
      · exact h'.1 x m
theorem srt_srt : ∀ l : List PI, (srt l).Pairwise LeP
  | [] => List.Pairwise.nil
  | p :: l => ins_srt p (srt_srt l)
theorem leP_anti {p q : PI} (h1 : LeP p q) (h2 : LeP q p) : p = q := by
  have a := leP_iff.mp h1
  have b := leP_iff.mp h2
  obtain ⟨x, y⟩ := p
  obtain ⟨x', y'⟩ := q
  have e1 : x = x' := by show x = x'; simp only at a b; omega
  have e2 : y = y' := by simp only at a b; omega
  rw [e1, e2]
/-- there is one sorted list of them -/
theorem srt_uniq : ∀ {l m : List PI}, l.Pairwise LeP → m.Pairwise LeP → l.Perm m → l = m
  | [], m, _, _, h => (List.Perm.eq_nil h.symm).symm
  | x :: l, [], _, _, h => absurd h.length_eq (by simp)
  | x :: l, y :: m, hl, hm, h => by
    have l' := List.pairwise_cons.mp hl
    have m' := List.pairwise_cons.mp hm
    have h1 : LeP y x := by
      rcases List.mem_cons.mp (h.mem_iff.mp (List.mem_cons_self (a := x) (l := l))) with e | z
      · rw [e]; rcases leP_total y y with z | z <;> exact z
      · exact m'.1 x z
    have h2 : LeP x y := by
      rcases List.mem_cons.mp (h.mem_iff.mpr (List.mem_cons_self (a := y) (l := m))) with e | z
      · rw [e]; rcases leP_total x x with z | z <;> exact z
      · exact l'.1 y z
    have e := leP_anti h2 h1
    subst e
    rw [srt_uniq l'.2 m'.2 h.cons_inv]
theorem srt_of {l m : List PI} (h : m.Pairwise LeP) (p : m.Perm l) : m = srt l := srt_uniq h (srt_srt l) (p.trans (srt_perm l).symm)
/-- what a value says as a pair, read off the heap -/
def pOf (H : Hp) : V → Int × Int
  | .ref t => match H t with
    | some (.tup [.int i, .int j]) => (i, j)
    | _ => (0, 0)
  | _ => (0, 0)
theorem pOf_is {H : Hp} {v : V} {d : PI} (h : Is H v d) : ∃ t, v = .ref t ∧ H t = some (.tup [.int (pOf H v).1, .int (pOf H v).2]) ∧ d = ⟨(pOf H v).1, (pOf H v).2⟩ := by
  obtain ⟨t, x, y, rfl, h1, h2, h3⟩ := h
  have h2 : x = .int d.a := h2
  have h3 : y = .int d.b := h3
  subst h2
  subst h3
  have e : pOf H (.ref t) = (d.a, d.b) := by simp only [pOf, h1]
  exact ⟨t, rfl, by rw [e]; exact h1, by rw [e]⟩
theorem all_of {H : Hp} : ∀ {xs : List V} {l : List PI}, IsAll H xs l → l = xs.map fun v => (⟨(pOf H v).1, (pOf H v).2⟩ : PI) := fun {xs l} h => by
  refine List.ext_getElem? fun i => ?_
  rw [List.getElem?_map]
  cases e : xs[i]? with
  | none =>
    have := List.getElem?_eq_none_iff.mp e
    exact List.getElem?_eq_none_iff.mpr (by rw [← h.1]; exact this)
  | some x =>
    obtain ⟨d, hd, hx⟩ := h.get' e
    obtain ⟨t, _, _, q⟩ := pOf_is hx
    rw [hd, q]
    rfl
/-- sorted of a list of pairs -/
theorem sort_pairs {K : PySem.W.Frag} {F H : Hp} {a : Addr} {xs : List V} {l : List PI} {Q : VK} (sF : Same F H) (hx : IsAll F xs l) (ha : SqL K H a xs) (q : ∀ ys p, H p = none → IsAll F ys (srt l) → Q (.ref p) (upd H p (.lst ys))) : rSortQ K [.ref a] H Q := by
  unfold rSortQ
  refine ⟨a, xs, pOf F, rfl, ha, fun x m => ?_, fun ys p hs hb np => q ys p np ?_⟩
  · obtain ⟨i, hi⟩ := List.getElem?_of_mem m
    obtain ⟨d, _, hd⟩ := hx.get' hi
    obtain ⟨t, e, h, _⟩ := pOf_is hd
    exact ⟨t, e, sF _ _ h⟩
  · have el := all_of hx
    have hys : IsAll F ys (ys.map fun v => (⟨(pOf F v).1, (pOf F v).2⟩ : PI)) := by
      refine ⟨by rw [List.length_map], fun i x y h1 h2 => ?_⟩
      rw [List.getElem?_map, h1] at h2
      cases h2
      have m : x ∈ xs := hb.perm.mem_iff.mp (List.mem_of_getElem? h1)
      obtain ⟨j, hj⟩ := List.getElem?_of_mem m
      obtain ⟨d, _, hd⟩ := hx.get' hj
      obtain ⟨t, e, h, e2⟩ := pOf_is hd
      exact ⟨t, _, _, e, h, rfl, rfl⟩
    have es : (ys.map fun v => (⟨(pOf F v).1, (pOf F v).2⟩ : PI)) = srt l := by
      refine srt_of ?_ ?_
      · refine List.pairwise_map.mpr (List.Pairwise.imp (fun {x y} h => ?_) hs)
        have h := SrtO.lexB_no.mp h
        exact leP_iff.mpr (by simp only; omega)
      · rw [el]
        exact hb.perm.map _
    rw [es] at hys
    exact hys
theorem pairs_of {K : PySem.W.Frag} {H : Hp} : ∀ {xs : List V} {l : List PI}, IsAll H xs l → ∃ ps : List Addr, xs = ps.map V.ref ∧ Paired (fun p kv => SqT K H p [kV kv.1, kv.2]) ps (dI l)
  | [], [], _ => ⟨[], rfl, .nil⟩
  | [], d :: l, h => by have := h.1; simp at this
  | x :: xs, [], h => by have := h.1; simp at this
  | x :: xs, d :: l, h => by
    obtain ⟨t, x1, x2, e, h1, h2, h3⟩ := h.2 0 x d rfl rfl
    have h2 : x1 = .int d.a := h2
    have h3 : x2 = .int d.b := h3
    subst h2
    subst h3
    obtain ⟨ps, e2, p⟩ := pairs_of (K := K) (xs := xs) (l := l) ⟨by have := h.1; simpa using this, fun i a b p q => h.2 (i + 1) a b (by simpa using p) (by simpa using q)⟩
    exact ⟨t :: ps, by rw [e, e2]; rfl, .cons (SqT.of h1) p⟩
/-- dict(pairs) -/
theorem dict_pairs {K : PySem.W.Frag} {H : Hp} {a : Addr} {xs : List V} {l : List PI} {Q : VK} (hx : IsAll H xs l) (ha : SqL K H a xs) (q : ∀ p, H p = none → Q (.ref p) (upd H p (.dK (dI (merge [] l))))) : rDictP K [.ref a] H Q := by
  unfold rDictP
  obtain ⟨ps, e, p⟩ := pairs_of (K := K) hx
  refine ⟨a, ps, dI l, rfl, by rw [← e]; exact ha, p, fun d nd => ?_⟩
  have e2 : mergeK [] (dI l) = dI (merge [] l) := dI_merge l []
  rw [e2]
  exact q d nd
/-! ### a dict under its lock -/
theorem lock_in {F H : Hp} {d : Addr} {o : HO} (s : Same F H) : Same (fun c => if c = d then none else F c) (upd H d o) := fun c u h => by
  by_cases e : c = d
  · simp only [e, if_true] at h; cases h
  · simp only [e, if_false] at h
    rw [upd_ne e]; exact s c u h
theorem lock_out {F H F2 H2 : Hp} {d : Addr} {o u : HO} (s : Same F H) (h : H d = some u) (g : Gr mu0 (fun c => if c = d then none else F c) (upd H d o) F2 H2) :
    H2 d = some o ∧ Same F2 (fun c => if c = d then F d else F2 c) ∧ Gr mu0 F H (fun c => if c = d then F d else F2 c) (upd H2 d u) := by
  have n2 : F2 d = none := by
    cases e : F2 d with
    | none => rfl
    | some z =>
      rcases g.nw d z e with k | k
      · simp only [if_true] at k; cases k
      · rw [upd_same] at k; cases k
  refine ⟨g.fr d o upd_same (fun z => z), fun c z e => ?_, ⟨fun c z e => ?_, fun c z e => ?_, fun c z e => ?_, fun c z e m => ?_, fun c e => ?_⟩⟩
  · by_cases k : c = d
    · rw [k, n2] at e; cases e
    · simp only [k, if_false]; exact e
  · by_cases k : c = d
    · simp only [k, if_true]; rw [← k]; exact e
    · simp only [k, if_false]
      exact g.ff c z (by simp only [k, if_false]; exact e)
  · by_cases k : c = d
    · simp only [k, if_true] at e
      rw [k, upd_same, ← h]
      exact s d z e
    · simp only [k, if_false] at e
      rw [upd_ne k]; exact g.fh c z e
  · by_cases k : c = d
    · simp only [k, if_true] at e
      exact .inl (by rw [k]; exact e)
    · simp only [k, if_false] at e
      rcases g.nw c z e with q | q
      · simp only [k, if_false] at q; exact .inl q
      · rw [upd_ne k] at q; exact .inr q
  · by_cases k : c = d
    · rw [k, upd_same]; rw [k, h] at e; exact e
    · rw [upd_ne k]
      exact g.fr c z (by rw [upd_ne k]; exact e) (fun z => z)
  · by_cases k : c = d
    · rw [k, upd_same] at e; cases e
    · rw [upd_ne k] at e
      have q := g.th c e
      rw [upd_ne k] at q; exact q
/-- the signs that aren't 0, in order -/
def nz (p : PI) : Bool := decide (p.b ≠ 0)
def told (l : List PI) : List PI := srt (l.filter nz)
theorem dI_get {l : List PI} {i : Nat} (h : i < l.length) : (dI l)[i]? = some (Sum.inl l[i].a, V.int l[i].b) := by
  unfold dI
  rw [List.getElem?_map, List.getElem?_eq_getElem h]
  rfl
theorem filter_take_succ {l : List PI} {f : PI → Bool} {i : Nat} (h : i < l.length) : (l.take (i + 1)).filter f = (l.take i).filter f ++ (if f l[i] = true then [l[i]] else []) := by
  rw [List.take_add_one, List.getElem?_eq_getElem h, List.filter_append]
  show _ ++ List.filter f [l[i]] = _
  rw [List.filter_cons]
  split <;> rfl
theorem nd_srt {l : List PI} (h : Nd l) : Nd (srt l) := ((srt_perm l).map (fun p : PI => p.a)).nodup_iff.mpr h
theorem mem_srt {l : List PI} {q : PI} : q ∈ srt l ↔ q ∈ l := (srt_perm l).mem_iff
theorem mem_put {l : List PI} {x v : Int} {q : PI} (m : q ∈ put l x v) : q ∈ l ∨ q = ⟨x, v⟩ := by
  unfold put at m
  split at m
  · obtain ⟨z, hz, e⟩ := List.mem_map.mp m
    split at e
    · rename_i h1 h2
      exact .inr (by rw [← e, h2])
    · exact .inl (by rw [← e]; exact hz)
  · rcases List.mem_append.mp m with m | m
    · exact .inl m
    · exact .inr (List.mem_singleton.mp m)
/-! ### sorted(d.items()), d a dict of ints to ints -/
section
open PySem.Spec PyProof.Rows
variable {X : Cx}
@[irreducible] def rSortIt : V → Hp → VK → Prop := fun x H Q => ∃ (d : Addr) (l : List PI), x = .ref d ∧ H d = some (.dK (dI l)) ∧
  ∀ (H' : Hp) (p : Addr) (ys : List Addr), Same H H' → H p = none → (∀ t ∈ ys, H t = none) → p ∉ ys → (∀ b, b ≠ p → b ∉ ys → H' b = H b) → H' p = some (.lst (ys.map V.ref)) → All2 (fun t (q : PI) => H' t = some (.tup [.int q.a, .int q.b])) ys (srt l) → Q (.ref p) H'
end
/-! ### sum of a tuple; a tuple not at all or once -/
section
open PySem.Spec PyProof.Rows
variable {X : Cx}
end
/-! slices of tuples, +: the ways -/
@[irreducible] def rSlQ (K : PySem.W.Frag) : V → Option Int → Option Int → Hp → VK → Prop := rSlA K
theorem sl_tupQ {X : Cx} : SlR X (rSlQ X.K) := by
  unfold rSlQ
  exact sl_tupA
@[irreducible] def rCatQ (K : PySem.W.Frag) : R2 := rCatA K
theorem op_catQ {X : Cx} : OpR X (binaryOp .Add) (rCatQ X.K) := by
  unfold rCatQ
  exact op_catA
/-! ### enumerate(tuple); sorted(dict) of int keys, of any length -/
section
open PySem.Spec PyProof.Rows
set_option maxHeartbeats 8000000 in
section
variable {prog : Program} {w : World} {A : Around} {E : Value → Shared → Prop} {s : Shared}
end
/-- sorted(d) of a dict whose keys are ints -/
@[irreducible] def rSortDI : List V → Hp → VK → Prop := fun xs H Q => ∃ (a : Addr) (kvs : List (Key × V)) (ks : List Int), xs = [.ref a] ∧ Rd H a (.dK kvs) ∧ kvs.map (·.1) = ks.map Sum.inl ∧
  ∀ (ys : List Int) (p : Addr), ys.Perm ks → ys.Pairwise (· ≤ ·) → H p = none → Q (.ref p) (upd H p (.lst (ys.map V.int)))
end
/-! ### dicts keyed by data: tuples in tuples -/
section
open PySem.Spec PyProof.Rows
mutual
def keyD : PyData → NestedKey
  | .int i => .num i
  | .str x => .text x
  | .tuple xs => .tup (keyDs xs)
  | _ => .none
def keyDs : List PyData → List NestedKey
  | [] => []
  | d :: ds => keyD d :: keyDs ds
end
mutual
def kable : PyData → Bool
  | .none => true
  | .int _ => true
  | .str _ => true
  | .tuple xs => kables xs
  | _ => false
def kables : List PyData → Bool
  | [] => true
  | d :: ds => kable d && kables ds
end
mutual
theorem keyD_eqv : ∀ a b : PyData, kable a = true → kable b = true → (keyD a = keyD b ↔ PyData.eqv a b = true)
  | .none, b, _, hb => by cases b <;> simp_all [keyD, PyData.eqv, kable]
  | .int i, b, _, hb => by cases b <;> simp_all [keyD, PyData.eqv, kable]
  | .str x, b, _, hb => by cases b <;> simp_all [keyD, PyData.eqv, kable]
  | .tuple xs, .tuple ys, ha, hb => by
    rw [keyD, keyD, PyData.eqv, NestedKey.tup.injEq]
    exact keyDs_eqv xs ys (by rw [kable] at ha; exact ha) (by rw [kable] at hb; exact hb)
  | .tuple xs, .none, _, _ => by simp [keyD, PyData.eqv]
  | .tuple xs, .int _, _, _ => by simp [keyD, PyData.eqv]
  | .tuple xs, .str _, _, _ => by simp [keyD, PyData.eqv]
  | .tuple xs, .bool _, _, hb => by simp [kable] at hb
  | .tuple xs, .list _, _, hb => by simp [kable] at hb
  | .tuple xs, .dict _, _, hb => by simp [kable] at hb
  | .bool _, _, ha, _ => by simp [kable] at ha
  | .list _, _, ha, _ => by simp [kable] at ha
  | .dict _, _, ha, _ => by simp [kable] at ha
theorem keyDs_eqv : ∀ a b : List PyData, kables a = true → kables b = true → (keyDs a = keyDs b ↔ PyData.eqvAll a b = true)
  | [], [], _, _ => by simp [keyDs, PyData.eqvAll]
  | [], _ :: _, _, _ => by simp [keyDs, PyData.eqvAll]
  | _ :: _, [], _, _ => by simp [keyDs, PyData.eqvAll]
  | a :: as, b :: bs, ha, hb => by
    rw [kables, Bool.and_eq_true] at ha hb
    rw [keyDs, keyDs, PyData.eqvAll, Bool.and_eq_true, List.cons.injEq, keyD_eqv a b ha.1 hb.1, keyDs_eqv as bs ha.2 hb.2]
end
mutual
theorem keyD_depth : ∀ d : PyData, (keyD d).depth ≤ d.depth
  | .none => by simp [keyD, NestedKey.depth]
  | .int _ => by simp [keyD, NestedKey.depth]
  | .str _ => by simp [keyD, NestedKey.depth]
  | .bool _ => by simp [keyD, NestedKey.depth]
  | .list _ => by simp [keyD, NestedKey.depth]
  | .dict _ => by simp [keyD, NestedKey.depth]
  | .tuple xs => by
    rw [keyD, NestedKey.depth, PyData.depth]
    exact Nat.succ_le_succ (keyDs_depth xs)
theorem keyDs_depth : ∀ ds : List PyData, NestedKey.depthAll (keyDs ds) ≤ PyData.depthAll ds
  | [] => by simp [keyDs, NestedKey.depthAll]
  | d :: ds => by
    have h1 := keyD_depth d
    have h2 := keyDs_depth ds
    rw [keyDs, NestedKey.depthAll, PyData.depthAll]
    omega
end
section
variable {X : Cx} {pins : List (Addr × Obj)} {σ : L2.St} {H : Hp} {s : Shared}
mutual
theorem key_at (I : Inv X pins σ H s) : ∀ (d : PyData) (v : V) (u : Value), kable d = true → Dp X.K H v d → RelV v u → NestedIs s.heap (keyD d) u
  | .none, _, _, _, hd, r => by cases hd; cases r; exact .none
  | .int i, _, _, _, hd, r => by cases hd; obtain ⟨t, rfl⟩ := r; exact .int _ _
  | .str x, _, _, _, hd, r => by cases hd; obtain ⟨t, rfl⟩ := r; exact .text _ _
  | .tuple ds, _, _, hk, hd, r => by
    cases hd with
    | tup hs ha =>
      cases r
      obtain ⟨its, rv, ⟨o, ho, hc, n, hdt⟩, _⟩ := I.tuple hs
      exact .tup ho hc hdt (by simpa using keys_at I ds _ its (by rw [kable] at hk; exact hk) ha rv)
  | .bool _, _, _, hk, _, _ => by simp [kable] at hk
  | .list _, _, _, hk, _, _ => by simp [kable] at hk
  | .dict _, _, _, hk, _, _ => by simp [kable] at hk
theorem keys_at (I : Inv X pins σ H s) : ∀ (ds : List PyData) (vs : List V) (us : List Value), kables ds = true → DpAll X.K H vs ds → Vals vs us → NestedAll s.heap (keyDs ds) us
  | [], _, _, _, hd, r => by cases hd; cases r; exact .nil
  | d :: ds, _, _, hk, hd, r => by
    rw [kables, Bool.and_eq_true] at hk
    cases hd with
    | cons h1 h2 =>
      cases r with
      | cons r1 r2 => exact .cons (key_at I d _ _ hk.1 h1 r1) (keys_at I ds _ _ hk.2 h2 r2)
end
end
/-- a key, the place of its tuple, the value -/
abbrev Ne := NestedKey × Addr × V
def RelN : List Ne → List (NestedKey × Addr × Value) → Prop := Paired fun p q => p.1 = q.1 ∧ p.2.1 = q.2.1 ∧ RelV p.2.2 q.2.2
def NOk (P : Program) (w : World) (a : Addr) (xs : List Ne) (h : Heap) : Prop := xs.length ≤ sizeLine ∧ (a == sysModules) = false ∧ ∃ ys, RelN xs ys ∧
  ∃ o es ep, h.get? a = some o ∧ o.ExactDict ∧ o.data = .dict es ep ∧ es.toList = ys.map (entryOfKey (nestedKind P w)) ∧ (ys.map (·.1)).Nodup
/-- a dict of such keys -/
def DictN (P : Program) (w : World) (a : Addr) (xs : List Ne) : HO := .ext (NOk P w a xs)
theorem NOk.obj {P : Program} {w : World} {a : Addr} {xs : List Ne} {h : Heap} {H : Hp} (x : NOk P w a xs h) : ObjOk P w H h a (DictN P w a xs) := by
  refine ⟨x, ?_, fun h1 h2 y k => ?_⟩
  · obtain ⟨_, _, _, _, o, _, _, e, _⟩ := x
    exact ⟨o, e⟩
  · obtain ⟨z1, z2, ys, r, o, es, ep, e, c⟩ := y
    exact ⟨z1, z2, ys, r, o, es, ep, k _ e, c⟩
def valN (xs : List Ne) (k : NestedKey) : Option V := (xs.find? fun x => decide (x.1 = k)).map (·.2.2)
def putN (xs : List Ne) (k : NestedKey) (b : Addr) (v : V) : List Ne := if (valN xs k).isSome then xs.map (fun x => if x.1 = k then (x.1, x.2.1, v) else x) else xs ++ [(k, b, v)]
theorem RelN.val {xs : List Ne} {ys : List (NestedKey × Addr × Value)} (r : RelN xs ys) (k : NestedKey) : RelO (valN xs k) ((atKey ys k).map (·.2)) := by
  induction r with
  | nil => exact True.intro
  | @cons p q ps qs h t ih =>
    obtain ⟨h1, h2, h3⟩ := h
    unfold valN atKey at ih ⊢
    rw [List.find?_cons, List.find?_cons]
    by_cases e : p.1 = k
    · rw [decide_eq_true e, decide_eq_true (h1 ▸ e)]
      exact h3
    · rw [decide_eq_false e, decide_eq_false (h1 ▸ e)]
      exact ih
theorem RelN.put {xs : List Ne} {ys : List (NestedKey × Addr × Value)} (r : RelN xs ys) (k : NestedKey) (b : Addr) {v : V} {u : Value} (rv : RelV v u) : RelN (putN xs k b v) (storedH ys k b u) := by
  have e : (valN xs k).isSome = (atKey ys k).isSome := by
    rw [(r.val k).isSome_eq, Option.isSome_map]
  unfold putN storedH
  rw [e]
  by_cases h : (atKey ys k).isSome = true
  · rw [if_pos h, if_pos h]
    clear e h
    induction r with
    | nil => exact .nil
    | @cons p q ps qs hpq t ih =>
      obtain ⟨h1, h2, h3⟩ := hpq
      refine .cons ?_ ih
      unfold putAt
      dsimp only
      by_cases e : p.1 = k
      · rw [if_pos e, if_pos (h1 ▸ e)]; exact ⟨h1, h2, rv⟩
      · rw [if_neg e, if_neg (h1 ▸ e)]; exact ⟨h1, h2, h3⟩
  · rw [if_neg h, if_neg h]
    clear e h
    induction r with
    | nil => exact .cons ⟨rfl, rfl, rv⟩ .nil
    | cons hpq t ih => exact .cons hpq ih
/-- the keys stand yet -/
def KeysN (K : PySem.W.Frag) (H : Hp) (xs : List Ne) : Prop := ∀ t ∈ xs, ∃ d, keyD d = t.1 ∧ kable d = true ∧ d.depth ≤ 8 ∧ Dp K H (.ref t.2.1) d
section
variable {X : Cx} {pins : List (Addr × Obj)} {σ : L2.St} {H : Hp} {s : Shared} {a : Addr} {xs : List Ne}
theorem n_of (I : Inv X pins σ H s) (e : H a = some (DictN X.prog X.w a xs)) (hk : KeysN X.K H xs) : xs.length ≤ sizeLine ∧ (a == sysModules) = false ∧ ∃ ys, RelN xs ys ∧ s.heap.DictOfH (nestedKind X.prog X.w) a ys := by
  obtain ⟨⟨z1, z2, ys, r, o, es, ep, e1, e2, e3, e4, e5⟩, _⟩ := (show ObjOk X.prog X.w H s.heap a (DictN X.prog X.w a xs) from I.hok a _ e)
  refine ⟨z1, z2, ys, r, o, es, ep, e1, e2, e3, e4, ?_, e5⟩
  have all : ∀ {xs : List Ne} {ys : List (NestedKey × Addr × Value)}, RelN xs ys → KeysN X.K H xs → ∀ x ∈ ys, (nestedKind X.prog X.w).is s.heap x.1 x.2.1 := by
    intro xs ys r
    induction r with
    | nil => intro _ x hx; exact nomatch hx
    | @cons p q ps qs h t ih =>
      intro hk x hx
      obtain ⟨h1, h2, h3⟩ := h
      rcases List.mem_cons.mp hx with e | hx
      · subst e
        obtain ⟨d, k1, k2, k3, k4⟩ := hk p (List.mem_cons_self ..)
        rw [← h1, ← h2, ← k1]
        exact ⟨key_at I d _ _ k2 k4 rfl, Nat.le_trans (keyD_depth d) k3⟩
      · exact ih (fun t m => hk t (List.mem_cons_of_mem _ m)) x hx
  exact all r hk
end
/-- what the dict at a holds at the key y -/
def NGet (X : Cx) (H : Hp) (a : Addr) (y : V) (o : Option V) : Prop := ∃ xs b d, H a = some (DictN X.prog X.w a xs) ∧ KeysN X.K H xs ∧ y = .ref b ∧ Dp X.K H y d ∧ kable d = true ∧ d.depth ≤ 8 ∧ o = valN xs (keyD d)
def NPut (X : Cx) (H : Hp) (a : Addr) (y v : V) (H' : Hp) : Prop := ∃ xs b d, H a = some (DictN X.prog X.w a xs) ∧ KeysN X.K H xs ∧ y = .ref b ∧ Dp X.K H y d ∧ kable d = true ∧ d.depth ≤ 8 ∧ xs.length < sizeLine ∧ H' = upd H a (DictN X.prog X.w a (putN xs (keyD d) b v))
theorem putN_len (xs : List Ne) (k : NestedKey) (b : Addr) (v : V) : (putN xs k b v).length ≤ xs.length + 1 := by
  unfold putN
  split
  · rw [List.length_map]; omega
  · rw [List.length_append]; exact Nat.le_refl _
section
variable {X : Cx} {pins : List (Addr × Obj)} {σ : L2.St} {H : Hp} {s : Shared} {a : Addr} {y v : V} {u r : Value} {o : Option V} {A : Around} {E : Value → Shared → Prop}
theorem n_set {H' : Hp} {Q : Unit → Shared → Prop} (hu : A.units + 9 < cLine) (I : Inv X pins σ H s) (g : NPut X H a y v H') (ry : RelV y u) (rv : RelV v r) (h : ∀ s', Inv X pins σ H' s' → Q () s') : wpAny (model X.prog X.w) A (setItem (.ref a) u r) Q E s := by
  obtain ⟨xs, b, d, e, hk, rfl, hd, kd, dd, l, rfl⟩ := g
  cases (show u = Value.ref b from ry)
  obtain ⟨z, zd, ys, rel, D⟩ := n_of I e hk
  have hz : ys.length ≤ sizeLine := by rw [← Paired.length rel]; exact z
  have hl : (putN xs (keyD d) b v).length ≤ sizeLine := by have := putN_len xs (keyD d) b v; omega
  refine wpAny_setItem_heap (hsz := hz) (knd := nestedKind X.prog X.w) (show A.units + 1 + 8 < cLine by omega) ⟨key_at I d _ _ kd hd rfl, Nat.le_trans (keyD_depth d) dd⟩ D fun h' D' hs => h _ ?_
  obtain ⟨q, es, ep, hq, h2, h3, h4, _, h5⟩ := D'
  exact d_write I (by rw [e]; exact True.intro) hs ⟨q, hq⟩ (NOk.obj ⟨hl, zd, _, rel.put _ b rv, q, es, ep, hq, h2, h3, h4, h5⟩)
end
/-! the rules -/
section
variable {X : Cx} {o i value : PySem.Expr} {pos pos' : Pos} {td ty tv : TE}
end
/-! the same, of typed data -/
abbrev DL (α : Type) := List (Addr × α × V)
def neL {α : Type} [Dat α] (l : DL α) : List Ne := l.map fun t => (keyD (Dat.py t.2.1), t.1, t.2.2)
def DictD (P : Program) (w : World) {α : Type} [Dat α] (a : Addr) (l : DL α) : HO := DictN P w a (neL l)
def hasD {α : Type} [DecidableEq α] (l : DL α) (x : α) : Bool := l.any fun t => decide (t.2.1 = x)
def putD {α : Type} [DecidableEq α] (l : DL α) (b : Addr) (x : α) (v : V) : DL α := if hasD l x = true then l.map (fun t => if t.2.1 = x then (t.1, t.2.1, v) else t) else l ++ [(b, x, v)]
def KeysD {α : Type} [Dat α] (H : Hp) (l : DL α) : Prop := ∀ t ∈ l, Is H (.ref t.1) t.2.1
class Kd (α : Type) [Dat α] : Prop where
  k : ∀ d : α, kable (Dat.py d) = true
instance : Kd Int := ⟨fun _ => by show kable (.int _) = true; rw [kable]⟩
theorem kd_all {α : Type} [Dat α] [Kd α] : ∀ l : List α, kables (l.map Dat.py) = true
  | [] => by rw [List.map_nil, kables]
  | d :: l => by rw [List.map_cons, kables, Kd.k, kd_all l]; rfl
instance {α : Type} [Dat α] [Kd α] : Kd (Tup α) := ⟨fun d => by show kable (.tuple (d.l.map Dat.py)) = true; rw [kable]; exact kd_all d.l⟩
instance {α β : Type} [Dat α] [Dat β] [Kd α] [Kd β] : Kd (T2 α β) := ⟨fun d => by
  show kable (.tuple [Dat.py d.a, Dat.py d.b]) = true
  rw [kable, kables, kables, kables, Kd.k, Kd.k]; rfl⟩
instance {α β γ : Type} [Dat α] [Dat β] [Dat γ] [Kd α] [Kd β] [Kd γ] : Kd (T3 α β γ) := ⟨fun d => by
  show kable (.tuple [Dat.py d.a, Dat.py d.b, Dat.py d.c]) = true
  rw [kable, kables, kables, kables, kables, Kd.k, Kd.k, Kd.k]; rfl⟩
section
variable {α : Type} [Dat α] [DecidableEq α] [Kd α]
theorem keyD_inj (a b : α) : (keyD (Dat.py a) = keyD (Dat.py b)) = (a = b) := propext ((keyD_eqv _ _ (Kd.k a) (Kd.k b)).trans (Dat.eqv a b))
theorem KeysD.n {K : PySem.W.Frag} {H : Hp} {l : DL α} (h : KeysD H l) (hl : Dat.dep α ≤ 8) : KeysN K H (neL l) := fun t m => by
  obtain ⟨x, mx, rfl⟩ := List.mem_map.mp m
  exact ⟨Dat.py x.2.1, rfl, Kd.k _, Nat.le_trans (Dat.depth _) hl, Dat.dp (h x mx)⟩
theorem KeysD.up {H H' : Hp} {l : DL α} (h : KeysD H l) (s : Same H H') : KeysD H' l := fun t m => Is.up (h t m) s
theorem valN_neL (x : α) : ∀ l : DL α, (valN (neL l) (keyD (Dat.py x))).isSome = hasD l x
  | [] => rfl
  | t :: l => by
    have ih := valN_neL x l
    unfold valN neL hasD at ih ⊢
    rw [List.map_cons, List.find?_cons, List.any_cons]
    simp only [keyD_inj] at ih ⊢
    by_cases e : t.2.1 = x
    · rw [decide_eq_true e]; rfl
    · rw [decide_eq_false e, Bool.false_or]; exact ih
theorem putN_neL (l : DL α) (b : Addr) (x : α) (v : V) : putN (neL l) (keyD (Dat.py x)) b v = neL (putD l b x v) := by
  unfold putN putD
  rw [valN_neL]
  by_cases h : hasD l x = true
  · rw [if_pos h, if_pos h]
    unfold neL
    rw [List.map_map, List.map_map]
    congr 1
    funext t
    simp only [Function.comp, keyD_inj]
    by_cases e : t.2.1 = x
    · rw [if_pos e, if_pos e]
    · rw [if_neg e, if_neg e]
  · rw [if_neg h, if_neg h]
    unfold neL
    rw [List.map_append]; rfl
theorem NGet.d {X : Cx} {P : Program} {w : World} {H : Hp} {a b : Addr} {l : DL α} {x : α} (h : H a = some (DictD P w a l)) (k : KeysD H l) (hx : Is H (.ref b) x) (hP : X.prog = P := by rfl) (hw : X.w = w := by rfl) (hl : Dat.dep α ≤ 8 := by decide) : NGet X H a (.ref b) (valN (neL l) (keyD (Dat.py x))) := by
  subst hP hw
  exact ⟨neL l, b, Dat.py x, h, k.n hl, rfl, Dat.dp hx, Kd.k x, Nat.le_trans (Dat.depth x) hl, rfl⟩
theorem NPut.d {X : Cx} {P : Program} {w : World} {H : Hp} {a b : Addr} {l : DL α} {x : α} {v : V} (h : H a = some (DictD P w a l)) (k : KeysD H l) (hx : Is H (.ref b) x) (z : l.length < sizeLine) (hP : X.prog = P := by rfl) (hw : X.w = w := by rfl) (hl : Dat.dep α ≤ 8 := by decide) : NPut X H a (.ref b) v (upd H a (DictD P w a (putD l b x v))) := by
  subst hP hw
  exact ⟨neL l, b, Dat.py x, h, k.n hl, rfl, Dat.dp hx, Kd.k x, Nat.le_trans (Dat.depth x) hl, by unfold neL; rw [List.length_map]; exact z, by rw [putN_neL]; rfl⟩
theorem KeysD.put {H : Hp} {l : DL α} {b : Addr} {x : α} {v : V} (h : KeysD H l) (hx : Is H (.ref b) x) : KeysD H (putD l b x v) := fun t m => by
  unfold putD at m
  by_cases c : hasD l x = true
  · rw [if_pos c] at m
    obtain ⟨t0, m0, rfl⟩ := List.mem_map.mp m
    have z := h t0 m0
    show Is H (.ref (if t0.2.1 = x then (t0.1, t0.2.1, v) else t0).1) (if t0.2.1 = x then (t0.1, t0.2.1, v) else t0).2.1
    split <;> exact z
  · rw [if_neg c] at m
    rcases List.mem_append.mp m with m | m
    · exact h t m
    · rw [List.mem_singleton.mp m]; exact hx
end
end
/-! ### sorted(..) of data; of a dict keyed by data -/
section
open PySem.Spec PyProof.Rows PySem.W
/-- any two compare -/
class Lk (α : Type) [Dat α] : Prop where
  k : ∀ a b : α, alike (Dat.py a) (Dat.py b) = true
instance : Lk Int := ⟨fun a b => by show alike (.int a) (.int b) = true; rw [alike]⟩
theorem lk_all {α : Type} [Dat α] [Lk α] : ∀ xs ys : List α, alikeAll (xs.map Dat.py) (ys.map Dat.py) = true
  | [], _ => by rw [List.map_nil, alikeAll]
  | _ :: _, [] => by rw [List.map_nil, List.map_cons, alikeAll]
  | x :: xs, y :: ys => by rw [List.map_cons, List.map_cons, alikeAll, Lk.k x y, lk_all xs ys]; rfl
instance {α : Type} [Dat α] [Lk α] : Lk (Tup α) := ⟨fun a b => by show alike (.tuple (a.l.map Dat.py)) (.tuple (b.l.map Dat.py)) = true; rw [alike]; exact lk_all a.l b.l⟩
instance {α : Type} [Dat α] [Lk α] : Lk (List α) := ⟨fun a b => by show alike (.list (a.map Dat.py)) (.list (b.map Dat.py)) = true; rw [alike]; exact lk_all a b⟩
instance {α β : Type} [Dat α] [Dat β] [Lk α] [Lk β] : Lk (T2 α β) := ⟨fun a b => by
  show alike (.tuple [Dat.py a.a, Dat.py a.b]) (.tuple [Dat.py b.a, Dat.py b.b]) = true
  rw [alike, alikeAll, alikeAll, alikeAll, Lk.k, Lk.k]; rfl⟩
instance {α β γ : Type} [Dat α] [Dat β] [Dat γ] [Lk α] [Lk β] [Lk γ] : Lk (T3 α β γ) := ⟨fun a b => by
  show alike (.tuple [Dat.py a.a, Dat.py a.b, Dat.py a.c]) (.tuple [Dat.py b.a, Dat.py b.b, Dat.py b.c]) = true
  rw [alike, alikeAll, alikeAll, alikeAll, alikeAll, Lk.k, Lk.k, Lk.k]; rfl⟩
/-- all tuples that hold something, or none a tuple -/
class So (α : Type) [Dat α] : Prop where
  k : (∀ a : α, ∃ x r, Dat.py a = .tuple (x :: r)) ∨ ∀ a : α, Dat.py a ≠ .none ∧ ∀ xs, Dat.py a ≠ .tuple xs
instance : So Int := ⟨.inr fun _ => ⟨(fun e => nomatch e), fun _ e => nomatch e⟩⟩
instance {α : Type} [Dat α] : So (List α) := ⟨.inr fun _ => ⟨(fun e => nomatch e), fun _ e => nomatch e⟩⟩
instance {α β : Type} [Dat α] [Dat β] : So (T2 α β) := ⟨.inl fun _ => ⟨_, _, rfl⟩⟩
instance {α β γ : Type} [Dat α] [Dat β] [Dat γ] : So (T3 α β γ) := ⟨.inl fun _ => ⟨_, _, rfl⟩⟩
/-- Python's sorted -/
def sortD {α : Type} [Dat α] (l : List α) : List α := l.mergeSort (dataLe false Dat.py)
/-- sorted(xs), xs a list of data -/
@[irreducible] def rSortN (K : PySem.W.Frag) : List V → Hp → VK → Prop := fun vs H Q => ∃ (α : Type) (_ : Dat α) (_ : Lk α) (_ : So α) (F : Hp) (a : Addr) (xs : List V) (ds : List α), vs = [.ref a] ∧ Same F H ∧ SqL K H a xs ∧ IsAll F xs ds ∧ Dat.dep α ≤ 64 ∧
  ∀ (ys : List V) (p : Addr), IsAll F ys (sortD ds) → H p = none → Q (.ref p) (upd H p (.lst ys))
theorem rSortN.mk {α : Type} [Dat α] [Lk α] [So α] {K : PySem.W.Frag} {F H : Hp} {Q : VK} {a : Addr} {xs : List V} {ds : List α} (sF : Same F H) (h : SqL K H a xs) (al : IsAll F xs ds) (q : ∀ (ys : List V) (p : Addr), IsAll F ys (sortD ds) → H p = none → Q (.ref p) (upd H p (.lst ys))) (hd : Dat.dep α ≤ 64 := by decide) : rSortN K [.ref a] H Q := by
  unfold rSortN
  exact ⟨α, inferInstance, inferInstance, inferInstance, F, a, xs, ds, rfl, sF, h, al, hd, q⟩
/-- sorted(d), d a dict keyed by data -/
@[irreducible] def rSortDN (X : Cx) : List V → Hp → VK → Prop := fun vs H Q => ∃ (α : Type) (_ : Dat α) (_ : Lk α) (_ : So α) (F : Hp) (a : Addr) (l : DL α), vs = [.ref a] ∧ Same F H ∧ H a = some (DictD X.prog X.w a l) ∧ KeysD F l ∧ Dat.dep α ≤ 64 ∧
  ∀ (ys : List V) (p : Addr), IsAll F ys (sortD (l.map (·.2.1))) → H p = none → Q (.ref p) (upd H p (.lst ys))
theorem rSortDN.mk {α : Type} [Dat α] [Lk α] [So α] {X : Cx} {P : Program} {w : World} {F H : Hp} {Q : VK} {a : Addr} {l : DL α} (sF : Same F H) (h : H a = some (DictD P w a l)) (k : KeysD F l) (q : ∀ (ys : List V) (p : Addr), IsAll F ys (sortD (l.map (·.2.1))) → H p = none → Q (.ref p) (upd H p (.lst ys))) (hd : Dat.dep α ≤ 64 := by decide) (hP : X.prog = P := by rfl) (hw : X.w = w := by rfl) : rSortDN X [.ref a] H Q := by
  have h' : H a = some (DictD X.prog X.w a l) := by rw [hP, hw]; exact h
  unfold rSortDN
  exact ⟨α, inferInstance, inferInstance, inferInstance, F, a, l, rfl, sF, h', k, hd, q⟩
section
variable {X : Cx}
end
end
/-! ### tuples known to the object; dict(tuple of pairs) -/
section
open PySem.Spec PyProof.Rows
/-- a tuple whose object is known to have no dict of its own -/
def FT (H : Hp) (a : Addr) (xs : List V) : Prop := ∃ o : Obj, H a = some (.frz o (.tup xs)) ∧ o.dict = none
theorem FT.up {H H' : Hp} {a : Addr} {xs : List V} (h : FT H a xs) (s : Same H H') : FT H' a xs := let ⟨o, e, d⟩ := h; ⟨o, s _ _ e, d⟩
theorem FT.sq {K : PySem.W.Frag} {H : Hp} {a : Addr} {xs : List V} (h : FT H a xs) : SqT K H a xs := let ⟨o, e, _⟩ := h; .inl (.inr ⟨o, e⟩)
section
variable {X : Cx} {es : List PySem.Expr} {t : TA} {pos : Pos}
/-- tuple(xs) of a list -/
@[irreducible] def rTupF (K : PySem.W.Frag) : List V → Hp → VK → Prop := fun xs H Q => ∃ p ys, xs = [.ref p] ∧ SqL K H p ys ∧ ∀ (l : Addr) (o : Obj), o.dict = none → H l = none → Q (.ref l) (upd H l (.frz o (.tup ys)))
theorem rTupF.mk {K : PySem.W.Frag} {H : Hp} {Q : VK} {p : Addr} {ys : List V} (h : SqL K H p ys) (q : ∀ (l : Addr) (o : Obj), o.dict = none → H l = none → Q (.ref l) (upd H l (.frz o (.tup ys)))) : rTupF K [.ref p] H Q := by
  unfold rTupF; exact ⟨p, ys, rfl, h, q⟩
/-- dict(t), t a tuple of pairs -/
@[irreducible] def rDictT (K : PySem.W.Frag) : List V → Hp → VK → Prop := fun xs H Q => ∃ (a : Addr) (ps : List Addr) (kvs : List (Key × V)), xs = [.ref a] ∧ FT H a (ps.map V.ref) ∧ Paired (fun p kv => SqT K H p [kV kv.1, kv.2]) ps kvs ∧ ∀ p, H p = none → Q (.ref p) (upd H p (.dK (mergeK [] kvs)))
theorem rDictT.mk {K : PySem.W.Frag} {H : Hp} {Q : VK} {a : Addr} {ps : List Addr} {kvs : List (Key × V)} (h : FT H a (ps.map V.ref)) (hp : Paired (fun p kv => SqT K H p [kV kv.1, kv.2]) ps kvs) (q : ∀ p, H p = none → Q (.ref p) (upd H p (.dK (mergeK [] kvs)))) : rDictT K [.ref a] H Q := by
  unfold rDictT; exact ⟨a, ps, kvs, rfl, h, hp, q⟩
end
/-- a tuple of data, its object known -/
structure PTup (α : Type) where
  l : List α
  deriving DecidableEq
instance {α : Type} [Dat α] : Dat (PTup α) where
  rep := fun H v l => ∃ a xs, v = .ref a ∧ FT H a xs ∧ IsAll H xs l.l
  mono := fun s h => by
    obtain ⟨a, xs, e, h, i⟩ := h
    exact ⟨a, xs, e, h.up s, IsAll.up i s⟩
  py := fun l => .tuple (l.l.map Dat.py)
  dp := fun h => by
    obtain ⟨a, xs, rfl, h, i⟩ := h
    exact .tup h.sq (dp_all i)
  can := fun d => can_all d.l
  dep := Dat.dep α + 1
  depth := fun d => Nat.succ_le_succ (depth_all d.l)
  eqv := fun a b => by
    rw [PyData.eqv, eqv_all]
    obtain ⟨a⟩ := a; obtain ⟨b⟩ := b
    simp
instance {α : Type} [Dat α] [Kd α] : Kd (PTup α) := ⟨fun d => by show kable (.tuple (d.l.map Dat.py)) = true; rw [kable]; exact kd_all d.l⟩
instance {α : Type} [Dat α] [Lk α] : Lk (PTup α) := ⟨fun a b => by show PySem.W.alike (.tuple (a.l.map Dat.py)) (.tuple (b.l.map Dat.py)) = true; rw [PySem.W.alike]; exact lk_all a.l b.l⟩
instance {α : Type} [Dat α] : Big (PTup α) := ⟨fun d => .inl ⟨_, rfl⟩⟩
end
/-! ### dicts of ints compared, alone and behind two ints in a tuple -/
def sameD (l m : List PI) : Bool := l.length == m.length && l.all fun p => decide (look m p.a = some p.b)
theorem nd_sub_len {α : Type} [DecidableEq α] : ∀ {l m : List α}, l.Nodup → (∀ x ∈ l, x ∈ m) → l.length ≤ m.length
  | [], _, _, _ => Nat.zero_le _
  | x :: l, m, h, s => by
    have hx := s x List.mem_cons_self
    have h' := List.nodup_cons.mp h
    have k := nd_sub_len (l := l) (m := m.erase x) h'.2 fun y hy => (List.mem_erase_of_ne fun e => h'.1 (by rw [← e]; exact hy)).mpr (s y (List.mem_cons_of_mem _ hy))
    rw [List.length_erase_of_mem hx] at k
    have := List.length_pos_of_mem hx
    rw [List.length_cons]
    omega
theorem sameD_iff {l m : List PI} (hl : Nd l) (hm : Nd m) : sameD l m = true ↔ ∀ x, look l x = look m x := by
  unfold sameD
  rw [Bool.and_eq_true, beq_iff_eq, List.all_eq_true]
  constructor
  · rintro ⟨e, h⟩ x
    have sub : ∀ y ∈ l.map (·.a), y ∈ m.map (·.a) := fun y hy => by
      obtain ⟨p, hp, rfl⟩ := List.mem_map.mp hy
      have := of_decide_eq_true (h p hp)
      exact List.mem_map.mpr ⟨_, mem_look this, rfl⟩
    cases f : look l x with
    | some v => exact (of_decide_eq_true (h ⟨x, v⟩ (mem_look f))).symm
    | none =>
      cases g : look m x with
      | none => rfl
      | some v =>
        exfalso
        have hx : x ∈ m.map (·.a) := List.mem_map.mpr ⟨_, mem_look g, rfl⟩
        have nx := look_none.mp f
        have k := nd_sub_len (l := x :: l.map fun p : PI => p.a) (m := m.map fun p : PI => p.a) (List.nodup_cons.mpr ⟨nx, hl⟩) fun y hy => by
          rcases List.mem_cons.mp hy with rfl | hy
          · exact hx
          · exact sub y hy
        rw [List.length_cons, List.length_map, List.length_map] at k
        omega
  · intro h
    have a : ∀ {l m : List PI}, Nd l → (∀ x, look l x = look m x) → ∀ y ∈ l.map (·.a), y ∈ m.map (·.a) := fun {l m} hl h y hy => by
      obtain ⟨p, hp, rfl⟩ := List.mem_map.mp hy
      have := look_mem hl hp
      rw [h] at this
      exact List.mem_map.mpr ⟨_, mem_look this, rfl⟩
    refine ⟨?_, fun p hp => decide_eq_true (by rw [← h]; exact look_mem hl hp)⟩
    have k1 := nd_sub_len hl (a hl h)
    have k2 := nd_sub_len hm (a hm fun x => (h x).symm)
    rw [List.length_map, List.length_map] at k1 k2
    omega
section
open PySem.Spec PyProof.Rows
variable {X : Cx}
def eK (l m : List PI) : Key → Bool
  | .inl i => decide (look l i = look m i)
  | .inr _ => false
theorem kv_mem : ∀ {l : List PI} {va : List (Key × Value)}, KV (dI l) va → ∀ {k : Key} {v : Value}, (k, v) ∈ va → ∃ p ∈ l, k = Sum.inl p.a ∧ ∃ t, v = .int p.b t
  | [], va, r, k, v, h => by
    cases r
    cases h
  | p :: l, va, r, k, v, h => by
    cases r with
    | @cons _ q _ qs hr t =>
      obtain ⟨h1, h2⟩ := hr
      rcases List.mem_cons.mp h with e | h
      · subst e
        exact ⟨p, List.mem_cons_self, h1.symm, h2⟩
      · obtain ⟨p', m, e, f⟩ := kv_mem (l := l) t h
        exact ⟨p', List.mem_cons_of_mem _ m, e, f⟩
theorem kv_all (f : Key → Bool) : ∀ {l : List PI} {va : List (Key × Value)}, KV (dI l) va → (va.all fun p => f p.1) = l.all fun p => f (Sum.inl p.a)
  | [], va, r => by
    cases r
    rfl
  | p :: l, va, r => by
    cases r with
    | @cons _ q _ qs hr t =>
      obtain ⟨h1, _⟩ := hr
      have h1 : Sum.inl p.a = q.1 := h1
      rw [List.all_cons, List.all_cons, kv_all f (l := l) t, ← h1]
theorem kv_at {m : List PI} {vb : List (Key × Value)} (r : KV (dI m) vb) (i : Int) : (look m i = none ∧ valueAt vb (Sum.inl i : Key) = none) ∨ ∃ z t, look m i = some z ∧ valueAt vb (Sum.inl i : Key) = some (.int z t) := by
  have h := r.val (Sum.inl i)
  rw [dI_val] at h
  cases e : look m i with
  | none =>
    rw [e] at h
    cases f : valueAt vb (Sum.inl i : Key) with
    | none => exact .inl ⟨rfl, rfl⟩
    | some y => rw [f] at h; cases h
  | some z =>
    rw [e] at h
    cases f : valueAt vb (Sum.inl i : Key) with
    | none => rw [f] at h; cases h
    | some y =>
      rw [f] at h
      obtain ⟨t, rfl⟩ : ∃ t, y = Value.int z t := h
      exact .inr ⟨z, t, rfl, rfl⟩
theorem leaf_int {s : Shared} {n : Nat} {i j : Int} {t u : Tok} : PySem.W.EqTree X.prog X.w s n (.int i t) (.int j u) (decide (i = j)) := by
  refine .leaf fun A _ => ?_
  have e : decide (i = j) = (i == j) := by
    rw [Bool.eq_iff_iff, decide_eq_true_iff, beq_iff_eq]
  rw [e]
  exact SeqAt.EqAt.int_int _ _ _ _
theorem dict_leaf {s : Shared} {l m : List PI} {va vb : List (Key × Value)} (nd : Nd l) (ra : KV (dI l) va) (rb : KV (dI m) vb) : ∀ k v y, (k, v) ∈ va → valueAt vb k = some y → PySem.W.EqTree X.prog X.w s 0 v y (eK l m k) := by
  intro k v y hm hv
  obtain ⟨p, hp, rfl, t, rfl⟩ := kv_mem ra hm
  rcases kv_at rb p.a with ⟨_, f⟩ | ⟨z, u, e, f⟩
  · rw [f] at hv; cases hv
  · rw [f] at hv
    cases hv
    have e2 : eK l m (Sum.inl p.a) = decide (p.b = z) := by
      show decide (look l p.a = look m p.a) = _
      rw [look_mem nd hp, e, Bool.eq_iff_iff, decide_eq_true_iff, decide_eq_true_iff]
      exact ⟨Option.some.inj, fun h => by rw [h]⟩
    rw [e2]
    exact leaf_int
theorem same_all {l m : List PI} {va vb : List (Key × Value)} (nd : Nd l) (ra : KV (dI l) va) (rb : KV (dI m) vb) : (va.length == vb.length && va.all fun p => (valueAt vb p.1).isSome && eK l m p.1) = sameD l m := by
  have el : va.length = l.length := by rw [← ra.length]; unfold dI; rw [List.length_map]
  have em : vb.length = m.length := by rw [← rb.length]; unfold dI; rw [List.length_map]
  unfold sameD
  rw [el, em]
  have e := kv_all (fun k => (valueAt vb k).isSome && eK l m k) ra
  rw [e]
  congr 1
  rw [Bool.eq_iff_iff, List.all_eq_true, List.all_eq_true]
  have key : ∀ p ∈ l, ((valueAt vb (Sum.inl p.a : Key)).isSome && eK l m (Sum.inl p.a)) = decide (look m p.a = some p.b) := fun p hp => by
    show ((valueAt vb (Sum.inl p.a : Key)).isSome && decide (look l p.a = look m p.a)) = _
    rw [look_mem nd hp]
    rcases kv_at rb p.a with ⟨e, f⟩ | ⟨z, u, e, f⟩
    · rw [e, f]; rfl
    · rw [e, f]
      show (true && decide (some p.b = some z)) = decide (some z = some p.b)
      rw [Bool.true_and, Bool.eq_iff_iff, decide_eq_true_iff, decide_eq_true_iff]
      exact eq_comm
  exact ⟨fun h p hp => by rw [← key p hp]; exact h p hp, fun h p hp => by rw [key p hp]; exact h p hp⟩
/-- d == e, dicts of ints -/
def rEqDi : R2 := fun x y H Q => ∃ a b l m, x = .ref a ∧ y = .ref b ∧ H a = some (.dK (dI l)) ∧ H b = some (.dK (dI m)) ∧ Nd l ∧ Q (.bl (sameD l m)) H
theorem op_eqDi (hu : X.A.units + 64 < cLine) : OpR X (compareOp .Eq) rEqDi := by
  intro pins s σ H x y v u Q I rx ry h
  obtain ⟨a, b, l, m, rfl, rfl, ea, eb, nd, q⟩ := h
  obtain rfl : v = Value.ref a := rx
  obtain rfl : u = Value.ref b := ry
  obtain ⟨_, ya, va, ra, da⟩ := (show ObjOk X.prog X.w H s.heap a (.dK (dI l)) from I.hok a _ ea)
  obtain ⟨_, yb, vb, rb, db⟩ := (show ObjOk X.prog X.w H s.heap b (.dK (dI m)) from I.hok b _ eb)
  exact PySem.W.eq_dictsT (knd := mixKind X.prog X.w) (n := 0) (e := eK l m) ya yb da db (dict_leaf nd ra rb) (by omega) (fin_bl I q (same_all nd ra rb).symm)
end
def top (i : Nat) : Stmt := PySem.Challenge.pw_endnever_k25_whole_papers_never_end.main.body.getD i (.Pass ⟨0, 0, 0, 0⟩)
abbrev s_L_mixed : Stmt := top 45
abbrev N_L_mixed : List Str := ["_law_cell", "_law_k", "_law_rest", "_law_number"]
theorem sc_L_mixed : FnScope ["_law_cell", "_law_k", "_law_rest", "_law_number"] ["_law_cell", "_law_k"] (defScope s_L_mixed) := ⟨rfl, rfl, rfl, by decide +kernel, rfl, by decide +kernel, by decide +kernel⟩
abbrev s_L_purse : Stmt := top 46
abbrev N_L_purse : List Str := ["_law_script", "_law_cells", "_law_number", "_law_k"]
theorem sc_L_purse : FnScope ["_law_script", "_law_cells", "_law_number", "_law_k"] ["_law_script"] (defScope s_L_purse) := ⟨rfl, rfl, rfl, by decide +kernel, rfl, by decide +kernel, by decide +kernel⟩
abbrev s_L_draw : Stmt := top 47
abbrev N_L_draw : List Str := ["_law_purse_here", "_law_out_of", "_law_drawn"]
theorem sc_L_draw : FnScope ["_law_purse_here", "_law_out_of", "_law_drawn"] ["_law_purse_here", "_law_out_of"] (defScope s_L_draw) := ⟨rfl, rfl, rfl, by decide +kernel, rfl, by decide +kernel, by decide +kernel⟩
abbrev s_L_machine : Stmt := top 48
abbrev N_L_machine : List Str := ["_law_purse_here", "_law_rows", "_law_signs", "_law_kind", "_law_found", "_law_k", "_law_row", "_law_j", "_law_entry"]
theorem sc_L_machine : FnScope ["_law_purse_here", "_law_rows", "_law_signs", "_law_kind", "_law_found", "_law_k", "_law_row", "_law_j", "_law_entry"] ["_law_purse_here"] (defScope s_L_machine) := ⟨rfl, rfl, rfl, by decide +kernel, rfl, by decide +kernel, by decide +kernel⟩
abbrev s_L_late : Stmt := top 50
abbrev N_L_late : List Str := ["_law_purse_here", "_law_found", "_law_kind", "_law_row"]
theorem sc_L_late : FnScope ["_law_purse_here", "_law_found", "_law_kind", "_law_row"] ["_law_purse_here"] (defScope s_L_late) := ⟨rfl, rfl, rfl, by decide +kernel, rfl, by decide +kernel, by decide +kernel⟩
abbrev s_L_led : Stmt := top 49
abbrev N_L_led : List Str := ["_law_purse_here", "_law_signs", "_law_way", "_law_long", "_law_rows", "_law_found", "_law_k", "_law_row", "_law_j"]
theorem sc_L_led : FnScope ["_law_purse_here", "_law_signs", "_law_way", "_law_long", "_law_rows", "_law_found", "_law_k", "_law_row", "_law_j"] ["_law_purse_here"] (defScope s_L_led) := ⟨rfl, rfl, rfl, by decide +kernel, rfl, by decide +kernel, by decide +kernel⟩
abbrev s_L_any : Stmt := top 51
abbrev N_L_any : List Str := ["_law_purse_here"]
theorem sc_L_any : FnScope ["_law_purse_here"] ["_law_purse_here"] (defScope s_L_any) := ⟨rfl, rfl, rfl, by decide +kernel, rfl, by decide +kernel, by decide +kernel⟩
abbrev s_is_entry : Stmt := top 6
abbrev N_is_entry : List Str := ["entry", "rows", "signs"]
theorem sc_is_entry : FnScope ["entry", "rows", "signs"] ["entry", "rows", "signs"] (defScope s_is_entry) := ⟨rfl, rfl, rfl, by decide +kernel, rfl, by decide +kernel, by decide +kernel⟩
abbrev s_is_machine : Stmt := top 7
abbrev N_is_machine : List Str := ["machine", "rows", "signs", "row", "entry"]
theorem sc_is_machine : FnScope ["machine", "rows", "signs", "row", "entry"] ["machine"] (defScope s_is_machine) := ⟨rfl, rfl, rfl, by decide +kernel, rfl, by decide +kernel, by decide +kernel⟩
abbrev s_must_machine : Stmt := top 8
abbrev N_must_machine : List Str := ["machine"]
theorem sc_must_machine : FnScope ["machine"] ["machine"] (defScope s_must_machine) := ⟨rfl, rfl, rfl, by decide +kernel, rfl, by decide +kernel, by decide +kernel⟩
abbrev s_Goer_init : Stmt := inClass (top 10) 0
abbrev N_Goer_init : List Str := ["self", "machine", "setup"]
theorem sc_Goer_init : FnScope ["self", "machine", "setup"] ["self", "machine", "setup"] (defScope s_Goer_init) := ⟨rfl, rfl, rfl, by decide +kernel, rfl, by decide +kernel, by decide +kernel⟩
abbrev s_told_strip : Stmt := top 9
abbrev N_told_strip : List Str := ["signs", "place", "sign"]
theorem sc_told_strip : FnScope ["signs", "place", "sign"] ["signs"] (defScope s_told_strip) := ⟨rfl, rfl, rfl, by decide +kernel, rfl, by decide +kernel, by decide +kernel⟩
abbrev s_Goer_setup : Stmt := inClass (top 10) 3
abbrev N_Goer_setup : List Str := ["self"]
theorem sc_Goer_setup : FnScope ["self"] ["self"] (defScope s_Goer_setup) := ⟨rfl, rfl, rfl, by decide +kernel, rfl, by decide +kernel, by decide +kernel⟩
abbrev s_Goer_entry : Stmt := inClass (top 10) 1
abbrev N_Goer_entry : List Str := ["self"]
theorem sc_Goer_entry : FnScope ["self"] ["self"] (defScope s_Goer_entry) := ⟨rfl, rfl, rfl, by decide +kernel, rfl, by decide +kernel, by decide +kernel⟩
abbrev s_Goer_step : Stmt := inClass (top 10) 2
abbrev N_Goer_step : List Str := ["self", "entry"]
theorem sc_Goer_step : FnScope ["self", "entry"] ["self"] (defScope s_Goer_step) := ⟨rfl, rfl, rfl, by decide +kernel, rfl, by decide +kernel, by decide +kernel⟩
abbrev s_setups : Stmt := top 21
abbrev N_setups : List Str := ["machine", "most", "walk", "found"]
theorem sc_setups : FnScope ["machine", "most", "walk", "found"] ["machine", "most"] (defScope s_setups) := ⟨rfl, rfl, rfl, by decide +kernel, rfl, by decide +kernel, by decide +kernel⟩
abbrev s_plain : Stmt := top 13
abbrev N_plain : List Str := ["signs", "found", "place"]
theorem sc_plain : FnScope ["signs", "found", "place"] ["signs"] (defScope s_plain) := ⟨rfl, rfl, rfl, by decide +kernel, rfl, by decide +kernel, by decide +kernel⟩
abbrev s_Log_init : Stmt := inClass (top 12) 0
abbrev N_Log_init : List Str := ["self", "machine", "most", "walk", "going"]
theorem sc_Log_init : FnScope ["self", "machine", "most", "walk", "going"] ["self", "machine", "most"] (defScope s_Log_init) := ⟨rfl, rfl, rfl, by decide +kernel, rfl, by decide +kernel, by decide +kernel⟩
abbrev s_Log_last : Stmt := inClass (top 12) 1
abbrev N_Log_last : List Str := ["self"]
theorem sc_Log_last : FnScope ["self"] ["self"] (defScope s_Log_last) := ⟨rfl, rfl, rfl, by decide +kernel, rfl, by decide +kernel, by decide +kernel⟩
abbrev s_Log_same : Stmt := inClass (top 12) 2
abbrev N_Log_same : List Str := ["self", "one", "other"]
theorem sc_Log_same : FnScope ["self", "one", "other"] ["self", "one", "other"] (defScope s_Log_same) := ⟨rfl, rfl, rfl, by decide +kernel, rfl, by decide +kernel, by decide +kernel⟩
abbrev s_ring : Stmt := top 16
abbrev N_ring : List Str := ["machine", "most", "log", "last", "first"]
theorem sc_ring : FnScope ["machine", "most", "log", "last", "first"] ["machine", "most"] (defScope s_ring) := ⟨rfl, rfl, rfl, by decide +kernel, rfl, by decide +kernel, by decide +kernel⟩
abbrev s_gone : Stmt := top 19
abbrev N_gone : List Str := ["machine", "most", "walk", "going"]
theorem sc_gone : FnScope ["machine", "most", "walk", "going"] ["machine", "most"] (defScope s_gone) := ⟨rfl, rfl, rfl, by decide +kernel, rfl, by decide +kernel, by decide +kernel⟩
abbrev s_run : Stmt := top 20
abbrev N_run : List Str := ["machine", "most", "walk", "ended"]
theorem sc_run : FnScope ["machine", "most", "walk", "ended"] ["machine", "most"] (defScope s_run) := ⟨rfl, rfl, rfl, by decide +kernel, rfl, by decide +kernel, by decide +kernel⟩
abbrev s_Log_drifts : Stmt := inClass (top 12) 3
abbrev N_Log_drifts : List Str := ["self", "one", "other", "low", "high", "by", "ahead", "behind", "place", "within"]
theorem sc_Log_drifts : FnScope ["self", "one", "other", "low", "high", "by", "ahead", "behind", "place", "within"] ["self", "one", "other", "low", "high"] (defScope s_Log_drifts) := ⟨rfl, rfl, rfl, by decide +kernel, rfl, by decide +kernel, by decide +kernel⟩
abbrev s_drift : Stmt := top 17
abbrev N_drift : List Str := ["machine", "most", "log", "last", "low", "high", "best", "first"]
theorem sc_drift : FnScope ["machine", "most", "log", "last", "low", "high", "best", "first"] ["machine", "most"] (defScope s_drift) := ⟨rfl, rfl, rfl, by decide +kernel, rfl, by decide +kernel, by decide +kernel⟩
abbrev s_is_ring : Stmt := top 14
abbrev N_is_ring : List Str := ["machine", "first", "last", "log"]
theorem sc_is_ring : FnScope ["machine", "first", "last", "log"] ["machine", "first", "last"] (defScope s_is_ring) := ⟨rfl, rfl, rfl, by decide +kernel, rfl, by decide +kernel, by decide +kernel⟩
abbrev s_is_drift : Stmt := top 15
abbrev N_is_drift : List Str := ["machine", "first", "last", "log", "places"]
theorem sc_is_drift : FnScope ["machine", "first", "last", "log", "places"] ["machine", "first", "last"] (defScope s_is_drift) := ⟨rfl, rfl, rfl, by decide +kernel, rfl, by decide +kernel, by decide +kernel⟩
abbrev s_ends_behind : Stmt := top 22
abbrev N_ends_behind : List Str := ["machine", "most", "walk", "ended"]
theorem sc_ends_behind : FnScope ["machine", "most", "walk", "ended"] ["machine", "most"] (defScope s_ends_behind) := ⟨rfl, rfl, rfl, by decide +kernel, rfl, by decide +kernel, by decide +kernel⟩
abbrev s_shows : Stmt := top 43
abbrev N_shows : List Str := ["machine", "paper"]
theorem sc_shows : FnScope ["machine", "paper"] ["machine", "paper"] (defScope s_shows) := ⟨rfl, rfl, rfl, by decide +kernel, rfl, by decide +kernel, by decide +kernel⟩
abbrev s_L_goes_round : Stmt := top 52
abbrev N_L_goes_round : List Str := ["_law_machine_here", "_law_paper", "_law_kind", "_law_first", "_law_last", "_law_far", "_law_ahead", "_law_k", "_law_behind", "_law_by"]
theorem sc_L_goes_round : FnScope ["_law_machine_here", "_law_paper", "_law_kind", "_law_first", "_law_last", "_law_far", "_law_ahead", "_law_k", "_law_behind", "_law_by"] ["_law_machine_here", "_law_paper"] (defScope s_L_goes_round) := ⟨rfl, rfl, rfl, by decide +kernel, rfl, by decide +kernel, by decide +kernel⟩
abbrev s_law : Stmt := top 53
abbrev N_law : List Str := ["_law_script", "_law_purse_here", "_law_machine_here", "_law_most", "_law_ended", "_law_paper", "_law_more", "_law_some", "_law_marks", "_law_row", "_law_place", "_law_strip"]
theorem sc_law : FnScope ["_law_script", "_law_purse_here", "_law_machine_here", "_law_most", "_law_ended", "_law_paper", "_law_more", "_law_some", "_law_marks", "_law_row", "_law_place", "_law_strip"] ["_law_script"] (defScope s_law) := ⟨rfl, rfl, rfl, by decide +kernel, rfl, by decide +kernel, by decide +kernel⟩
set_option genInjectivity false in
set_option genSizeOf false in
/-- what the top has written: where each def stands, what the names hold -/
structure Tx (K : PySem.W.Frag) (mg : Str → Option Value) where
  a_L_mixed : Addr
  fd_L_mixed : FuncData
  F_L_mixed : Fun K "_law_mixed" "_law_mixed" s_L_mixed a_L_mixed fd_L_mixed
  b_L_mixed : Binds K fd_L_mixed ["_law_cell", "_law_k"] []
  m_L_mixed : mg "_law_mixed" = some (.ref a_L_mixed)
  a_L_purse : Addr
  fd_L_purse : FuncData
  F_L_purse : Fun K "_law_purse" "_law_purse" s_L_purse a_L_purse fd_L_purse
  b_L_purse : Binds K fd_L_purse ["_law_script"] []
  m_L_purse : mg "_law_purse" = some (.ref a_L_purse)
  a_L_draw : Addr
  fd_L_draw : FuncData
  F_L_draw : Fun K "_law_draw" "_law_draw" s_L_draw a_L_draw fd_L_draw
  b_L_draw : Binds K fd_L_draw ["_law_purse_here", "_law_out_of"] []
  m_L_draw : mg "_law_draw" = some (.ref a_L_draw)
  a_L_machine : Addr
  fd_L_machine : FuncData
  F_L_machine : Fun K "_law_machine" "_law_machine" s_L_machine a_L_machine fd_L_machine
  b_L_machine : Binds K fd_L_machine ["_law_purse_here"] []
  m_L_machine : mg "_law_machine" = some (.ref a_L_machine)
  a_L_late : Addr
  fd_L_late : FuncData
  F_L_late : Fun K "_law_late" "_law_late" s_L_late a_L_late fd_L_late
  b_L_late : Binds K fd_L_late ["_law_purse_here"] []
  m_L_late : mg "_law_late" = some (.ref a_L_late)
  a_L_led : Addr
  fd_L_led : FuncData
  F_L_led : Fun K "_law_led" "_law_led" s_L_led a_L_led fd_L_led
  b_L_led : Binds K fd_L_led ["_law_purse_here"] []
  m_L_led : mg "_law_led" = some (.ref a_L_led)
  a_L_any : Addr
  fd_L_any : FuncData
  F_L_any : Fun K "_law_any" "_law_any" s_L_any a_L_any fd_L_any
  b_L_any : Binds K fd_L_any ["_law_purse_here"] []
  m_L_any : mg "_law_any" = some (.ref a_L_any)
  a_is_entry : Addr
  fd_is_entry : FuncData
  F_is_entry : Fun K "is_entry" "is_entry" s_is_entry a_is_entry fd_is_entry
  b_is_entry : Binds K fd_is_entry ["entry", "rows", "signs"] []
  m_is_entry : mg "is_entry" = some (.ref a_is_entry)
  a_is_machine : Addr
  fd_is_machine : FuncData
  F_is_machine : Fun K "is_machine" "is_machine" s_is_machine a_is_machine fd_is_machine
  b_is_machine : Binds K fd_is_machine ["machine"] []
  m_is_machine : mg "is_machine" = some (.ref a_is_machine)
  a_must_machine : Addr
  fd_must_machine : FuncData
  F_must_machine : Fun K "must_machine" "must_machine" s_must_machine a_must_machine fd_must_machine
  b_must_machine : Binds K fd_must_machine ["machine"] []
  m_must_machine : mg "must_machine" = some (.ref a_must_machine)
  a_Goer_init : Addr
  fd_Goer_init : FuncData
  F_Goer_init : Fun K "__init__" "Goer.__init__" s_Goer_init a_Goer_init fd_Goer_init
  b_Goer_init : Binds K fd_Goer_init ["self", "machine", "setup"] []
  a_told_strip : Addr
  fd_told_strip : FuncData
  F_told_strip : Fun K "told_strip" "told_strip" s_told_strip a_told_strip fd_told_strip
  b_told_strip : Binds K fd_told_strip ["signs"] []
  m_told_strip : mg "told_strip" = some (.ref a_told_strip)
  a_Goer_setup : Addr
  fd_Goer_setup : FuncData
  F_Goer_setup : Fun K "setup" "Goer.setup" s_Goer_setup a_Goer_setup fd_Goer_setup
  b_Goer_setup : Binds K fd_Goer_setup ["self"] []
  a_Goer_entry : Addr
  fd_Goer_entry : FuncData
  F_Goer_entry : Fun K "entry" "Goer.entry" s_Goer_entry a_Goer_entry fd_Goer_entry
  b_Goer_entry : Binds K fd_Goer_entry ["self"] []
  a_Goer_step : Addr
  fd_Goer_step : FuncData
  F_Goer_step : Fun K "step" "Goer.step" s_Goer_step a_Goer_step fd_Goer_step
  b_Goer_step : Binds K fd_Goer_step ["self"] []
  a_setups : Addr
  fd_setups : FuncData
  F_setups : Fun K "setups" "setups" s_setups a_setups fd_setups
  b_setups : Binds K fd_setups ["machine", "most"] []
  m_setups : mg "setups" = some (.ref a_setups)
  a_plain : Addr
  fd_plain : FuncData
  F_plain : Fun K "plain" "plain" s_plain a_plain fd_plain
  b_plain : Binds K fd_plain ["signs"] []
  m_plain : mg "plain" = some (.ref a_plain)
  a_Log_init : Addr
  fd_Log_init : FuncData
  F_Log_init : Fun K "__init__" "Log.__init__" s_Log_init a_Log_init fd_Log_init
  b_Log_init : Binds K fd_Log_init ["self", "machine", "most"] []
  a_Log_last : Addr
  fd_Log_last : FuncData
  F_Log_last : Fun K "last" "Log.last" s_Log_last a_Log_last fd_Log_last
  b_Log_last : Binds K fd_Log_last ["self"] []
  a_Log_same : Addr
  fd_Log_same : FuncData
  F_Log_same : Fun K "same" "Log.same" s_Log_same a_Log_same fd_Log_same
  b_Log_same : Binds K fd_Log_same ["self", "one", "other"] []
  a_ring : Addr
  fd_ring : FuncData
  F_ring : Fun K "ring" "ring" s_ring a_ring fd_ring
  b_ring : Binds K fd_ring ["machine", "most"] []
  m_ring : mg "ring" = some (.ref a_ring)
  a_gone : Addr
  fd_gone : FuncData
  F_gone : Fun K "gone" "gone" s_gone a_gone fd_gone
  b_gone : Binds K fd_gone ["machine", "most"] []
  m_gone : mg "gone" = some (.ref a_gone)
  a_run : Addr
  fd_run : FuncData
  F_run : Fun K "run" "run" s_run a_run fd_run
  b_run : Binds K fd_run ["machine", "most"] []
  m_run : mg "run" = some (.ref a_run)
  a_Log_drifts : Addr
  fd_Log_drifts : FuncData
  F_Log_drifts : Fun K "drifts" "Log.drifts" s_Log_drifts a_Log_drifts fd_Log_drifts
  b_Log_drifts : Binds K fd_Log_drifts ["self", "one", "other", "low", "high"] []
  a_drift : Addr
  fd_drift : FuncData
  F_drift : Fun K "drift" "drift" s_drift a_drift fd_drift
  b_drift : Binds K fd_drift ["machine", "most"] []
  m_drift : mg "drift" = some (.ref a_drift)
  a_is_ring : Addr
  fd_is_ring : FuncData
  F_is_ring : Fun K "is_ring" "is_ring" s_is_ring a_is_ring fd_is_ring
  b_is_ring : Binds K fd_is_ring ["machine", "first", "last"] []
  m_is_ring : mg "is_ring" = some (.ref a_is_ring)
  a_is_drift : Addr
  fd_is_drift : FuncData
  F_is_drift : Fun K "is_drift" "is_drift" s_is_drift a_is_drift fd_is_drift
  b_is_drift : Binds K fd_is_drift ["machine", "first", "last"] []
  m_is_drift : mg "is_drift" = some (.ref a_is_drift)
  a_ends_behind : Addr
  fd_ends_behind : FuncData
  F_ends_behind : Fun K "ends_behind" "ends_behind" s_ends_behind a_ends_behind fd_ends_behind
  b_ends_behind : Binds K fd_ends_behind ["machine", "most"] []
  m_ends_behind : mg "ends_behind" = some (.ref a_ends_behind)
  a_shows : Addr
  fd_shows : FuncData
  F_shows : Fun K "shows" "shows" s_shows a_shows fd_shows
  b_shows : Binds K fd_shows ["machine", "paper"] []
  m_shows : mg "shows" = some (.ref a_shows)
  a_L_goes_round : Addr
  fd_L_goes_round : FuncData
  F_L_goes_round : Fun K "_law_goes_round" "_law_goes_round" s_L_goes_round a_L_goes_round fd_L_goes_round
  b_L_goes_round : Binds K fd_L_goes_round ["_law_machine_here", "_law_paper"] []
  m_L_goes_round : mg "_law_goes_round" = some (.ref a_L_goes_round)
  a_law : Addr
  fd_law : FuncData
  F_law : Fun K "law" "law" s_law a_law fd_law
  b_law : Binds K fd_law ["_law_script"] []
  m_law : mg "law" = some (.ref a_law)
  C_NoMachine : Addr
  m_NoMachine : mg "NoMachine" = some (.ref C_NoMachine)
  C_Goer : Addr
  m_Goer : mg "Goer" = some (.ref C_Goer)
  cl_Goer : Cls K C_Goer
  M_Goer : Mk K C_Goer a_Goer_init
  M_Goer_entry : Meth K C_Goer "entry" a_Goer_entry
  M_Goer_step : Meth K C_Goer "step" a_Goer_step
  M_Goer_setup : Meth K C_Goer "setup" a_Goer_setup
  nA_Goer_table : NoAttr K C_Goer "table"
  nA_Goer_row : NoAttr K C_Goer "row"
  nA_Goer_spot : NoAttr K C_Goer "spot"
  nA_Goer_signs : NoAttr K C_Goer "signs"
  nA_Goer_steps : NoAttr K C_Goer "steps"
  C_Log : Addr
  m_Log : mg "Log" = some (.ref C_Log)
  cl_Log : Cls K C_Log
  M_Log : Mk K C_Log a_Log_init
  M_Log_last : Meth K C_Log "last" a_Log_last
  M_Log_same : Meth K C_Log "same" a_Log_same
  M_Log_drifts : Meth K C_Log "drifts" a_Log_drifts
  nA_Log_rows : NoAttr K C_Log "rows"
  nA_Log_places : NoAttr K C_Log "places"
  nA_Log_strips : NoAttr K C_Log "strips"
  nA_Log_has_ended : NoAttr K C_Log "has_ended"
  tk_MOST_ROWS : Tok
  m_MOST_ROWS : mg "MOST_ROWS" = some (.int 4 tk_MOST_ROWS)
  tk_MOST_SIGNS : Tok
  m_MOST_SIGNS : mg "MOST_SIGNS" = some (.int 4 tk_MOST_SIGNS)
  n_range : mg "range" = none
  n_len : mg "len" = none
  n_abs : mg "abs" = none
  n_all : mg "all" = none
  n_dict : mg "dict" = none
  n_sorted : mg "sorted" = none
  n_int : mg "int" = none
  n_list : mg "list" = none
  n_min : mg "min" = none
  n_max : mg "max" = none
  n_set : mg "set" = none
  n_tuple : mg "tuple" = none
/-! ### the fields of a Goer -/
theorem ne_Goer_table_row : ¬ (("table" : Str) = "row") := by decide +kernel
theorem ne_Goer_table_spot : ¬ (("table" : Str) = "spot") := by decide +kernel
theorem ne_Goer_table_signs : ¬ (("table" : Str) = "signs") := by decide +kernel
theorem ne_Goer_table_steps : ¬ (("table" : Str) = "steps") := by decide +kernel
theorem ne_Goer_row_spot : ¬ (("row" : Str) = "spot") := by decide +kernel
theorem ne_Goer_row_signs : ¬ (("row" : Str) = "signs") := by decide +kernel
theorem ne_Goer_row_steps : ¬ (("row" : Str) = "steps") := by decide +kernel
theorem ne_Goer_spot_signs : ¬ (("spot" : Str) = "signs") := by decide +kernel
theorem ne_Goer_spot_steps : ¬ (("spot" : Str) = "steps") := by decide +kernel
theorem ne_Goer_signs_steps : ¬ (("signs" : Str) = "steps") := by decide +kernel
def Goer_F (v0 v1 v2 v3 v4 : V) : List (Str × V) := [("table", v0), ("row", v1), ("spot", v2), ("signs", v3), ("steps", v4)]
theorem Goer_mk0 (v0 : V) : putF "table" v0 ([] : List (Str × V)) = ([("table", v0)] : List (Str × V)) := by
  simp only [putF]
theorem Goer_mk1 (v0 v1 : V) : putF "row" v1 ([("table", v0)] : List (Str × V)) = ([("table", v0), ("row", v1)] : List (Str × V)) := by
  simp only [putF, if_neg ne_Goer_table_row]
theorem Goer_mk2 (v0 v1 v2 : V) : putF "spot" v2 ([("table", v0), ("row", v1)] : List (Str × V)) = ([("table", v0), ("row", v1), ("spot", v2)] : List (Str × V)) := by
  simp only [putF, if_neg ne_Goer_table_spot, if_neg ne_Goer_row_spot]
theorem Goer_mk3 (v0 v1 v2 v3 : V) : putF "signs" v3 ([("table", v0), ("row", v1), ("spot", v2)] : List (Str × V)) = ([("table", v0), ("row", v1), ("spot", v2), ("signs", v3)] : List (Str × V)) := by
  simp only [putF, if_neg ne_Goer_table_signs, if_neg ne_Goer_row_signs, if_neg ne_Goer_spot_signs]
theorem Goer_mk4 (v0 v1 v2 v3 v4 : V) : putF "steps" v4 ([("table", v0), ("row", v1), ("spot", v2), ("signs", v3)] : List (Str × V)) = ([("table", v0), ("row", v1), ("spot", v2), ("signs", v3), ("steps", v4)] : List (Str × V)) := by
  simp only [putF, if_neg ne_Goer_table_steps, if_neg ne_Goer_row_steps, if_neg ne_Goer_spot_steps, if_neg ne_Goer_signs_steps]
theorem Goer_get_table {v0 v1 v2 v3 v4 : V} : (Goer_F v0 v1 v2 v3 v4).lookup ("table" : Str) = some v0 := by
  have e : Goer_F v0 v1 v2 v3 v4 = putF "table" v0 (Goer_F v0 v1 v2 v3 v4) := by
    unfold Goer_F
    simp only [putF, if_true]
  rw [e, lookup_putF, if_pos rfl]
theorem Goer_get_row {v0 v1 v2 v3 v4 : V} : (Goer_F v0 v1 v2 v3 v4).lookup ("row" : Str) = some v1 := by
  have e : Goer_F v0 v1 v2 v3 v4 = putF "row" v1 (Goer_F v0 v1 v2 v3 v4) := by
    unfold Goer_F
    simp only [putF, if_neg ne_Goer_table_row, if_true]
  rw [e, lookup_putF, if_pos rfl]
theorem Goer_put_row {v0 v1 v2 v3 v4 y : V} : putF "row" y (Goer_F v0 v1 v2 v3 v4) = Goer_F v0 y v2 v3 v4 := by
  unfold Goer_F
  simp only [putF, if_neg ne_Goer_table_row, if_true]
theorem Goer_get_spot {v0 v1 v2 v3 v4 : V} : (Goer_F v0 v1 v2 v3 v4).lookup ("spot" : Str) = some v2 := by
  have e : Goer_F v0 v1 v2 v3 v4 = putF "spot" v2 (Goer_F v0 v1 v2 v3 v4) := by
    unfold Goer_F
    simp only [putF, if_neg ne_Goer_table_spot, if_neg ne_Goer_row_spot, if_true]
  rw [e, lookup_putF, if_pos rfl]
theorem Goer_put_spot {v0 v1 v2 v3 v4 y : V} : putF "spot" y (Goer_F v0 v1 v2 v3 v4) = Goer_F v0 v1 y v3 v4 := by
  unfold Goer_F
  simp only [putF, if_neg ne_Goer_table_spot, if_neg ne_Goer_row_spot, if_true]
theorem Goer_get_signs {v0 v1 v2 v3 v4 : V} : (Goer_F v0 v1 v2 v3 v4).lookup ("signs" : Str) = some v3 := by
  have e : Goer_F v0 v1 v2 v3 v4 = putF "signs" v3 (Goer_F v0 v1 v2 v3 v4) := by
    unfold Goer_F
    simp only [putF, if_neg ne_Goer_table_signs, if_neg ne_Goer_row_signs, if_neg ne_Goer_spot_signs, if_true]
  rw [e, lookup_putF, if_pos rfl]
theorem Goer_get_steps {v0 v1 v2 v3 v4 : V} : (Goer_F v0 v1 v2 v3 v4).lookup ("steps" : Str) = some v4 := by
  have e : Goer_F v0 v1 v2 v3 v4 = putF "steps" v4 (Goer_F v0 v1 v2 v3 v4) := by
    unfold Goer_F
    simp only [putF, if_neg ne_Goer_table_steps, if_neg ne_Goer_row_steps, if_neg ne_Goer_spot_steps, if_neg ne_Goer_signs_steps, if_true]
  rw [e, lookup_putF, if_pos rfl]
theorem Goer_put_steps {v0 v1 v2 v3 v4 y : V} : putF "steps" y (Goer_F v0 v1 v2 v3 v4) = Goer_F v0 v1 v2 v3 y := by
  unfold Goer_F
  simp only [putF, if_neg ne_Goer_table_steps, if_neg ne_Goer_row_steps, if_neg ne_Goer_spot_steps, if_neg ne_Goer_signs_steps, if_true]
theorem Goer_no {v0 v1 v2 v3 v4 : V} {m : Str} (h0 : ¬ m = "table") (h1 : ¬ m = "row") (h2 : ¬ m = "spot") (h3 : ¬ m = "signs") (h4 : ¬ m = "steps") : (Goer_F v0 v1 v2 v3 v4).lookup m = none := by
  have h : ∀ (f : Str) (v : V) (r : List (Str × V)), ¬ m = f → r.lookup m = none → ((f, v) :: r).lookup m = none := fun f v r n q => by
    rw [List.lookup_cons, beq_eq_false_iff_ne.mpr n]; exact q
  unfold Goer_F
  exact h _ _ _ h0 (h _ _ _ h1 (h _ _ _ h2 (h _ _ _ h3 (h _ _ _ h4 rfl))))
theorem Goer_few {v0 v1 v2 v3 v4 : V} : (Goer_F v0 v1 v2 v3 v4).length < 1000 := by show 5 < 1000; decide
/-! ### the fields of a Log -/
theorem ne_Log_rows_places : ¬ (("rows" : Str) = "places") := by decide +kernel
theorem ne_Log_rows_strips : ¬ (("rows" : Str) = "strips") := by decide +kernel
theorem ne_Log_rows_has_ended : ¬ (("rows" : Str) = "has_ended") := by decide +kernel
theorem ne_Log_places_rows : ¬ (("places" : Str) = "rows") := by decide +kernel
theorem ne_Log_places_strips : ¬ (("places" : Str) = "strips") := by decide +kernel
theorem ne_Log_places_has_ended : ¬ (("places" : Str) = "has_ended") := by decide +kernel
theorem ne_Log_strips_rows : ¬ (("strips" : Str) = "rows") := by decide +kernel
theorem ne_Log_strips_places : ¬ (("strips" : Str) = "places") := by decide +kernel
theorem ne_Log_strips_has_ended : ¬ (("strips" : Str) = "has_ended") := by decide +kernel
def Log_F (v0 v1 v2 v3 : V) : List (Str × V) := [("rows", v0), ("places", v1), ("strips", v2), ("has_ended", v3)]
theorem Log_mk0 (v0 : V) : putF "rows" v0 ([] : List (Str × V)) = ([("rows", v0)] : List (Str × V)) := by
  simp only [putF]
theorem Log_mk1 (v0 v1 : V) : putF "places" v1 ([("rows", v0)] : List (Str × V)) = ([("rows", v0), ("places", v1)] : List (Str × V)) := by
  simp only [putF, if_neg ne_Log_rows_places]
theorem Log_mk2 (v0 v1 v2 : V) : putF "strips" v2 ([("rows", v0), ("places", v1)] : List (Str × V)) = ([("rows", v0), ("places", v1), ("strips", v2)] : List (Str × V)) := by
  simp only [putF, if_neg ne_Log_rows_strips, if_neg ne_Log_places_strips]
theorem Log_mk3 (v0 v1 v2 v3 : V) : putF "has_ended" v3 ([("rows", v0), ("places", v1), ("strips", v2)] : List (Str × V)) = ([("rows", v0), ("places", v1), ("strips", v2), ("has_ended", v3)] : List (Str × V)) := by
  simp only [putF, if_neg ne_Log_rows_has_ended, if_neg ne_Log_places_has_ended, if_neg ne_Log_strips_has_ended]
theorem Log_get_rows {v0 v1 v2 v3 : V} : (Log_F v0 v1 v2 v3).lookup ("rows" : Str) = some v0 := by
  have e : Log_F v0 v1 v2 v3 = putF "rows" v0 (Log_F v0 v1 v2 v3) := by
    unfold Log_F
    simp only [putF, if_true]
  rw [e, lookup_putF, if_pos rfl]
theorem Log_get_places {v0 v1 v2 v3 : V} : (Log_F v0 v1 v2 v3).lookup ("places" : Str) = some v1 := by
  have e : Log_F v0 v1 v2 v3 = putF "places" v1 (Log_F v0 v1 v2 v3) := by
    unfold Log_F
    simp only [putF, if_neg ne_Log_rows_places, if_true]
  rw [e, lookup_putF, if_pos rfl]
theorem Log_get_strips {v0 v1 v2 v3 : V} : (Log_F v0 v1 v2 v3).lookup ("strips" : Str) = some v2 := by
  have e : Log_F v0 v1 v2 v3 = putF "strips" v2 (Log_F v0 v1 v2 v3) := by
    unfold Log_F
    simp only [putF, if_neg ne_Log_rows_strips, if_neg ne_Log_places_strips, if_true]
  rw [e, lookup_putF, if_pos rfl]
theorem Log_get_has_ended {v0 v1 v2 v3 : V} : (Log_F v0 v1 v2 v3).lookup ("has_ended" : Str) = some v3 := by
  have e : Log_F v0 v1 v2 v3 = putF "has_ended" v3 (Log_F v0 v1 v2 v3) := by
    unfold Log_F
    simp only [putF, if_neg ne_Log_rows_has_ended, if_neg ne_Log_places_has_ended, if_neg ne_Log_strips_has_ended, if_true]
  rw [e, lookup_putF, if_pos rfl]
theorem Log_no {v0 v1 v2 v3 : V} {m : Str} (h0 : ¬ m = "rows") (h1 : ¬ m = "places") (h2 : ¬ m = "strips") (h3 : ¬ m = "has_ended") : (Log_F v0 v1 v2 v3).lookup m = none := by
  have h : ∀ (f : Str) (v : V) (r : List (Str × V)), ¬ m = f → r.lookup m = none → ((f, v) :: r).lookup m = none := fun f v r n q => by
    rw [List.lookup_cons, beq_eq_false_iff_ne.mpr n]; exact q
  unfold Log_F
  exact h _ _ _ h0 (h _ _ _ h1 (h _ _ _ h2 (h _ _ _ h3 rfl)))
section
variable {P : Program} {w : World} {K : PySem.W.Frag} {mg : Str → Option Value} {base : Heap}
/-! ### draws -/
def sp_L_mixed : Sp := fun vs H Q _ => ∃ c k : Int, vs = [.int c, .int k] ∧ 0 ≤ k ∧ k < 1000 ∧ ∀ n : Int, 0 ≤ n → n < 2147483587 → Q (.int n) H
theorem ok_L_mixed (t : Tx K mg) : FnOk P w K mg base CX0 1 t.a_L_mixed t.fd_L_mixed ["_law_cell", "_law_k"] sp_L_mixed := by
  refine t.F_L_mixed.ok sc_L_mixed (fun vs H Q E h => ?_) (fun cdv A outer s H vs Q E hr h => ?_)
  · obtain ⟨c, k, rfl, _⟩ := h
    rfl
  · obtain ⟨c, k, rfl, k0, k1, q⟩ := h
    refine ⟨_, (pss_cons (ps_set (i := 2) sc_L_mixed.nd rfl (by first | exact Or.inl rfl | exact Or.inr rfl) (pe_op op_mod (pv 0) (pe_op op_pow pe_int pe_int)))
      (pss_cons (ps_set (i := 3) sc_L_mixed.nd rfl (by first | exact Or.inl rfl | exact Or.inr rfl) (pe_op op_mod (pe_op op_mul (pe_op op_add (pe_op op_add (pe_op op_add (pe_op op_mul (pv 2) (pv 2)) (pe_op op_mul pe_int (pv 2))) (pe_op op_mul pe_int (pv 1))) pe_int) pe_int) pe_int))
      (pss_one (ps_ret (pe_op op_mod (pe_op op_add (pe_op op_mul (pv 3) (pv 3)) pe_int) pe_int))))), ?_⟩
    have e15 : (10 : Int) ^ (15 : Int).toNat = 1000000000000000 := by decide
    refine ⟨_, rfl, _, _, rfl, rfl, ⟨by decide, by decide, by decide⟩, _, _, rfl, rfl, (by show (0 : Int) < 10 ^ (15 : Int).toNat; decide), ?_⟩
    rw [e15]
    have h0 : (0 : Int) ≤ c % 1000000000000000 := Int.emod_nonneg _ (by decide)
    have h1 : c % 1000000000000000 < 1000000000000000 := Int.emod_lt_of_pos _ (by decide)
    generalize c % 1000000000000000 = r at h0 h1
    refine ⟨_, rfl, _, rfl, _, _, rfl, rfl, .inl ⟨by omega, by omega⟩, _, rfl, _, _, rfl, rfl, .inl ⟨by decide, by decide⟩, _, _, rfl, rfl, _, rfl, _, _, rfl, rfl, .inl ⟨by decide, by decide⟩, _, _, rfl, rfl, _, _, rfl, rfl,
      _, _, rfl, rfl, .inr ⟨by decide, by decide⟩, _, _, rfl, rfl, (by show (0 : Int) < 2147483629; decide), ?_⟩
    have g0 := Int.emod_nonneg ((r * r + 3 * r + 7919 * k + 1) * 48271) (show (2147483629 : Int) ≠ 0 by decide)
    have g1 := Int.emod_lt_of_pos ((r * r + 3 * r + 7919 * k + 1) * 48271) (show (0 : Int) < 2147483629 by decide)
    generalize (r * r + 3 * r + 7919 * k + 1) * 48271 % 2147483629 = n at g0 g1
    refine ⟨_, rfl, _, rfl, _, _, rfl, rfl, .inl ⟨by omega, by omega⟩, _, _, rfl, rfl, _, _, rfl, rfl, (by show (0 : Int) < 2147483587; decide), ?_⟩
    exact q _ (Int.emod_nonneg _ (by decide)) (Int.emod_lt_of_pos _ (by decide))
/-- the purse: two numbers that aren't below 0 -/
def PurseO (a b : Int) : HO := .lst [.int a, .int b]
def sp_L_purse (K : PySem.W.Frag) : Sp := fun vs H Q _ => ∃ (l : Addr) (ns : List Int), vs = [.ref l] ∧ SqL K H l (ns.map V.int) ∧ ns.length ≤ 63 ∧
  ∀ (a b : Int) (p : Addr) (H' : Hp), 0 ≤ a → 0 ≤ b → Same H H' → H p = none → H' p = some (PurseO a b) → Q (.ref p) H'
theorem ok_L_purse (t : Tx K mg) : FnOk P w K mg base CX0 2 t.a_L_purse t.fd_L_purse ["_law_script"] (sp_L_purse K) := by
  refine t.F_L_purse.ok sc_L_purse (fun vs H Q E h => ?_) (fun cdv A outer s H vs Q E hr h => ?_)
  · obtain ⟨l, ns, rfl, _⟩ := h
    rfl
  · obtain ⟨l, ns, rfl, hS, hn, q⟩ := h
    refine ⟨_, (pss_cons (ps_set (i := 1) sc_L_purse.nd rfl (by first | exact Or.inl rfl | exact Or.inr rfl) (pe_op op_cat (pe_slice sl_list (pv 0) po_none (po_some pe_int)) (pe_lst (pa_cons pe_int pa_nil))))
      (pss_cons (ps_set (i := 2) sc_L_purse.nd rfl (by first | exact Or.inl rfl | exact Or.inr rfl) pe_int)
      (pss_cons (ps_for PassesOwn.never rfl (pi_range1 (by rfl) t.n_range (pa_cons pe_int pa_nil)) (pg_name (i := 3) sc_L_purse.nd rfl (by first | exact Or.inl rfl | exact Or.inr rfl)) (pss_one (ps_set (i := 2) sc_L_purse.nd rfl (by first | exact Or.inl rfl | exact Or.inr rfl) (pe_op op_add (pe_op op_mul (pv 2) pe_int) (pe_call (ok_L_mixed t) (hr.mono (by decide)) (by rfl) t.m_L_mixed t.F_L_mixed.kp t.b_L_mixed .nil pass0 (pa_cons (pe_ix ix_list (pv 1) (pe_op op_mod (pv 3) (pe_callB (id := "len") call_lenQ (by rfl) t.n_len (by decide +kernel) (pa_cons (pv 1) pa_nil))) (fun _ _ => rfl)) (pa_cons (pv 3) pa_nil)))))))
      (pss_cons (ps_if (pt_cmpR op_ge (pe_callB (id := "abs") call_abs (by rfl) t.n_abs (by decide +kernel) (pa_cons (pe_ix ix_list (pv 1) pe_int (fun _ _ => rfl)) pa_nil)) (pe_op op_pow pe_int pe_int) (nomark _)) (pss_one (ps_ret (pe_lst (pa_cons (pe_callB (id := "abs") call_abs (by rfl) t.n_abs (by decide +kernel) (pa_cons (pe_ix ix_list (pv 1) pe_int (fun _ _ => rfl)) pa_nil)) (pa_cons (pv 2) pa_nil))))) pss_nil)
      (pss_one (ps_ret (pe_lst (pa_cons (pv 2) (pa_cons (pv 2) pa_nil))))))))), ?_⟩
    refine ⟨_, rfl, _, rfl, l, _, rfl, hS, fun p np => ?_⟩
    rw [cut_63 hn]
    have e0 : ([V.int 0] : List V) = [(0 : Int)].map V.int := rfl
    refine ⟨by show 1 ≤ sizeLine; decide, fun p2 np2 => ⟨p, p2, _, _, rfl, rfl, (by rw [upd_ne (ne_of_none upd_same np2)]; exact upd_same), upd_same, (by show _ + 1 ≤ _; rw [List.length_map]; exact Nat.le_trans (Nat.add_le_add_right hn 1) (by decide)), fun p3 np3 => ?_⟩⟩
    rw [e0, ← List.map_append]
    have s3 : Same H (upd (upd (upd H p (.lst (ns.map V.int))) p2 (.lst ([(0 : Int)].map V.int))) p3 (.lst ((ns ++ [0]).map V.int))) := sm_new (sm_new (sm_new (Same.refl H) np) np2) np3
    have hl : 0 < (ns ++ [0]).length := by simp
    generalize ec : ns ++ [0] = cs at s3 hl
    have h3 : (upd (upd (upd H p (.lst (ns.map V.int))) p2 (.lst ([(0 : Int)].map V.int))) p3 (.lst (cs.map V.int))) p3 = some (.lst (cs.map V.int)) := upd_same
    generalize upd (upd (upd H p (.lst (ns.map V.int))) p2 (.lst ([(0 : Int)].map V.int))) p3 (.lst (cs.map V.int)) = H3 at s3 h3
    refine ⟨64, rfl, by decide, by decide, for_range (lo := 0) (n := 64) (fun i σ H2 => ∃ (n : Int) (v : Option V), σ = [some (.ref l), some (.ref p3), some (.int n), v] ∧ H2 = H3 ∧ 0 ≤ n) ⟨1, none, rfl, rfl, by decide⟩ ?_ ?_⟩
    · rintro i σ H2 hi ⟨n, v, rfl, rfl, hn0⟩
      refine ⟨_, rfl, _, _, rfl, rfl, .inr ⟨by decide, by decide⟩, ?_⟩
      have hm := Int.emod_nonneg (0 + (i : Int)) (show ((cs.map V.int).length : Int) ≠ 0 by rw [List.length_map]; omega)
      have hm1 := Int.emod_lt_of_pos (0 + (i : Int)) (show (0 : Int) < ((cs.map V.int).length : Int) by rw [List.length_map]; omega)
      have hj : (((0 + (i : Int)) % ((cs.map V.int).length : Int)).toNat : Int) = (0 + (i : Int)) % ((cs.map V.int).length : Int) := Int.toNat_of_nonneg hm
      have hj1 : ((0 + (i : Int)) % ((cs.map V.int).length : Int)).toNat < cs.length := by rw [List.length_map] at hm1 ⊢; omega
      refine ⟨_, rfl, _, rfl, _, rfl, p3, _, rfl, .inl (SqL.of h3), _, _, rfl, rfl, (by rw [List.length_map]; omega), p3, _, _, _, rfl, rfl, SqL.of h3, at_of hj.symm (by rw [List.getElem?_map, List.getElem?_eq_getElem hj1]; rfl), ?_⟩
      refine ⟨_, rfl, _, _, rfl, by omega, by omega, fun m m0 m1 => ⟨_, _, rfl, rfl, ?_⟩⟩
      exact ⟨_, _, rfl, rfl, by omega⟩
    · rintro σ H2 ⟨n, v, rfl, rfl, hn0⟩
      have h0 : (cs.map V.int)[0]? = some (.int (cs[0])) := by rw [List.getElem?_map, List.getElem?_eq_getElem hl]; rfl
      refine ⟨_, rfl, p3, _, _, _, rfl, rfl, SqL.of h3, atI_nat (j := 0) h0, _, rfl, _, _, rfl, rfl, ⟨by decide, by decide, by decide⟩, _, _, rfl, rfl, _, rfl, ?_⟩
      refine ite2 (fun c => ?_) (fun c => ?_)
      · refine ⟨_, rfl, p3, _, _, _, rfl, rfl, SqL.of h3, atI_nat (j := 0) h0, _, rfl, _, rfl, by show 2 ≤ sizeLine; decide, fun q0 nq => ?_⟩
        exact q _ _ q0 _ (by split <;> omega) hn0 (sm_new s3 nq) (s3.free nq) upd_same
      · refine ⟨_, rfl, _, rfl, by show 2 ≤ sizeLine; decide, fun q0 nq => ?_⟩
        exact q _ _ q0 _ hn0 hn0 (sm_new s3 nq) (s3.free nq) upd_same
def sp_L_draw : Sp := fun vs H Q _ => ∃ (p : Addr) (a b n : Int), vs = [.ref p, .int n] ∧ H p = some (PurseO a b) ∧ 0 ≤ a ∧ 0 ≤ b ∧ 0 < n ∧ n < 1267650600228229401496703205376 ∧
  ∀ d a' b' : Int, 0 ≤ d → d < n → 0 ≤ a' → 0 ≤ b' → Q (.int d) (upd H p (PurseO a' b'))
theorem ok_L_draw (t : Tx K mg) : FnOk P w K mg base CX0 1 t.a_L_draw t.fd_L_draw ["_law_purse_here", "_law_out_of"] sp_L_draw := by
  refine t.F_L_draw.ok sc_L_draw (fun vs H Q E h => ?_) (fun cdv A outer s H vs Q E hr h => ?_)
  · obtain ⟨p, a, b, n, rfl, _⟩ := h
    rfl
  · obtain ⟨p, a, b, n, rfl, hp, ha, hb, n0, n1, q⟩ := h
    refine ⟨_, (pss_cons (ps_if (pt_cmpR op_eq (pe_ix ix_list (pv 0) pe_int (fun _ _ => rfl)) pe_int (nomark _)) (pss_one (ps_asg (pe_ix ix_list (pv 0) pe_int (fun _ _ => rfl)) (pg_sub (pv 0) pe_int set_list))) pss_nil)
      (pss_cons (ps_set (i := 2) sc_L_draw.nd rfl (by first | exact Or.inl rfl | exact Or.inr rfl) (pe_op op_mod (pe_ix ix_list (pv 0) pe_int (fun _ _ => rfl)) (pv 1)))
      (pss_cons (ps_asg (pe_op op_fdivW (pe_ix ix_list (pv 0) pe_int (fun _ _ => rfl)) (pv 1)) (pg_sub (pv 0) pe_int set_list))
      (pss_one (ps_ret (pv 2)))))), ?_⟩
    refine ⟨_, rfl, p, _, _, _, rfl, rfl, SqL.of hp, atI_nat (j := 0) rfl, rfl, _, rfl, ?_⟩
    refine ite2 (fun c => ?_) (fun c => ?_)
    · refine ⟨_, rfl, p, _, _, _, rfl, rfl, SqL.of hp, atI_nat (j := 1) rfl, _, rfl, p, _, _, 0, rfl, rfl, hp, rfl, ?_⟩
      refine ⟨_, rfl, p, _, _, _, rfl, rfl, SqL.of upd_same, atI_nat (j := 0) rfl, _, rfl, _, _, rfl, rfl, n0, ?_⟩
      refine ⟨_, rfl, p, _, _, _, rfl, rfl, SqL.of upd_same, atI_nat (j := 0) rfl, _, rfl, _, _, rfl, rfl, wide_div n0 (b := 100) (by have e : (2 : Nat) ^ 100 = 1267650600228229401496703205376 := rfl; rw [e]; omega) (by decide) (by decide), _, rfl, p, _, _, 0, rfl, rfl, upd_same, rfl, _, rfl, ?_⟩
      rw [upd_upd]
      exact q _ _ _ (Int.emod_nonneg _ (by omega)) (Int.emod_lt_of_pos _ n0) (Int.ediv_nonneg hb (by omega)) hb
    · refine ⟨_, rfl, p, _, _, _, rfl, rfl, SqL.of hp, atI_nat (j := 0) rfl, _, rfl, _, _, rfl, rfl, n0, ?_⟩
      refine ⟨_, rfl, p, _, _, _, rfl, rfl, SqL.of hp, atI_nat (j := 0) rfl, _, rfl, _, _, rfl, rfl, wide_div n0 (b := 100) (by have e : (2 : Nat) ^ 100 = 1267650600228229401496703205376 := rfl; rw [e]; omega) (by decide) (by decide), _, rfl, p, _, _, 0, rfl, rfl, hp, rfl, _, rfl, ?_⟩
      exact q _ _ _ (Int.emod_nonneg _ (by omega)) (Int.emod_lt_of_pos _ n0) (Int.ediv_nonneg ha (by omega)) hb
/-! ### machines that are machines -/
structure EOk (R S : Nat) (e : Ent) : Prop where
  ok : ∀ p w r, e = .go p w r → (0 ≤ p ∧ p < S) ∧ (w = -1 ∨ w = 1) ∧ 0 ≤ r ∧ r < R
structure MOk (M : Mach) (R S : Nat) : Prop where
  r1 : 1 ≤ R
  r4 : R ≤ 4
  s2 : 2 ≤ S
  s4 : S ≤ 4
  len : M.length = R
  row : ∀ r ∈ M, r.length = S
  ent : ∀ r ∈ M, ∀ e ∈ r, EOk R S e
def sp_is_entry : Sp := fun vs H Q _ => ∃ (F : Hp) (v : V) (e : Ent) (R S : Nat), vs = [v, .int R, .int S] ∧ Same F H ∧ Is F v e ∧ EOk R S e ∧ ∀ H', Gr mu0 F H F H' → Q (.bl true) H'
theorem ok_is_entry (t : Tx K mg) : FnOk P w K mg base CX0 1 t.a_is_entry t.fd_is_entry ["entry", "rows", "signs"] sp_is_entry := by
  refine t.F_is_entry.ok sc_is_entry (fun vs H Q E h => ?_) (fun cdv A outer s H vs Q E hr h => ?_)
  · obtain ⟨F, v, e, R, S, rfl, _⟩ := h
    rfl
  · obtain ⟨F, v, e, R, S, rfl, sF, hv, he, q⟩ := h
    refine ⟨_, (pss_cons (ps_if (pt_cmpR (op_eqD hr.units) (pv 0) (pe_tup pa_nil) (nomark _)) (pss_one (ps_ret pe_bl)) pss_nil)
      (pss_one (ps_ret (pe_and (pe_cmpR op_eq (pe_callB (id := "len") call_lenQ (by rfl) t.n_len (by decide +kernel) (pa_cons (pv 0) pa_nil)) pe_int (nomark _)) (pe_and (pe_chain op_le op_lt pe_int (pe_ix ix_tup (pv 0) pe_int (fun _ _ => rfl)) (pv 2)) (pe_and (pe_cmpR op_in_seq (pe_ix ix_tup (pv 0) pe_int (fun _ _ => rfl)) (pe_lst (pa_cons (pe_un un_neg pe_int) (pa_cons pe_int pa_nil))) (by rfl)) (pe_one (pe_chain op_le op_lt pe_int (pe_ix ix_tup (pv 0) pe_int (fun _ _ => rfl)) (pv 1))))))))), ?_⟩
    have g0 : Gr mu0 F H F H := Gr.refl sF
    refine ⟨_, rfl, by show 0 ≤ sizeLine; decide, fun p np => ?_⟩
    have g1 : Gr mu0 F H F (upd H p (.tup [])) := g0.own np
    refine eq_dat (a := e) (b := Ent.emp) (hv.up g1.fh) ⟨p, rfl, upd_same⟩ ?_
    refine ⟨_, rfl, ?_⟩
    refine ite2 (fun c => ?_) (fun c => ?_)
    · exact q _ g1
    · cases e with
      | emp => exact absurd (decide_eq_true rfl) c
      | go pu wa ro =>
        obtain ⟨a, rfl, ha⟩ := hv
        obtain ⟨⟨o1, o2⟩, o3, o4, o5⟩ := he.ok _ _ _ rfl
        have h1 := g1.fh _ _ ha
        refine ⟨_, rfl, a, _, rfl, .inr (SqT.of h1), rfl, _, rfl, ifT rfl ?_⟩
        refine ⟨_, rfl, a, _, _, _, rfl, rfl, SqT.of h1, atI_nat (j := 0) rfl, _, _, rfl, rfl, _, rfl, ifT (decide_eq_true o1) ⟨_, rfl, _, _, rfl, rfl, _, rfl, ifT (decide_eq_true o2) ?_⟩⟩
        refine ⟨_, rfl, a, _, _, _, rfl, rfl, SqT.of h1, atI_nat (j := 1) rfl, _, rfl, two_le, fun l nl => ?_⟩
        have g2 := g1.own (o := .lst [.int (-1), .int 1]) nl
        have h2 := g2.fh _ _ ha
        refine ⟨l, _, rfl, .inl (SqL.of upd_same), rfl, rfl, _, rfl, ifT ?_ ?_⟩
        · rcases o3 with rfl | rfl <;> rfl
        · refine ⟨_, rfl, a, _, _, _, rfl, rfl, SqT.of h2, atI_nat (j := 2) rfl, _, _, rfl, rfl, _, rfl, ifT (decide_eq_true o4) ⟨_, rfl, _, _, rfl, rfl, ?_⟩⟩
          show Q (.bl (decide (ro < (R : Int)))) _
          rw [decide_eq_true o5]
          exact q _ g2
/-- all bools of a list of trues -/
theorem all_rep (n : Nat) : (List.replicate n true).all id = true := by simp
theorem map_rep (n : Nat) : (List.replicate n true).map V.bl = List.replicate n (V.bl true) := by simp
theorem rep_snoc (n : Nat) : List.replicate n (V.bl true) ++ [V.bl true] = List.replicate (n + 1) (V.bl true) := by
  rw [← List.replicate_succ']
def sp_is_machine : Sp := fun vs H Q _ => ∃ (F : Hp) (v : V) (M : Mach) (R S : Nat), vs = [v] ∧ Same F H ∧ Is F v M ∧ MOk M R S ∧ ∀ H', Gr mu0 F H F H' → Q (.bl true) H'
theorem ok_is_machine (t : Tx K mg) : FnOk P w K mg base CX0 2 t.a_is_machine t.fd_is_machine ["machine"] sp_is_machine := by
  refine t.F_is_machine.ok sc_is_machine (fun vs H Q E h => ?_) (fun cdv A outer s H vs Q E hr h => ?_)
  · obtain ⟨F, v, M, R, S, rfl, _⟩ := h
    rfl
  · obtain ⟨F, v, M, R, S, rfl, sF, hv, hM, q⟩ := h
    refine ⟨_, (pss_cons (ps_set (i := 1) sc_is_machine.nd rfl (by first | exact Or.inl rfl | exact Or.inr rfl) (pe_callB (id := "len") call_lenQ (by rfl) t.n_len (by decide +kernel) (pa_cons (pv 0) pa_nil)))
      (pss_cons (ps_if (pt_not (pt_chain op_le op_le pe_int (pv 1) (pe_glob (v := .int 4) (by rfl) t.m_MOST_ROWS ⟨_, rfl⟩))) (pss_one (ps_ret pe_bl)) pss_nil)
      (pss_cons (ps_set (i := 2) sc_is_machine.nd rfl (by first | exact Or.inl rfl | exact Or.inr rfl) (pe_callB (id := "len") call_lenQ (by rfl) t.n_len (by decide +kernel) (pa_cons (pe_ix ix_list (pv 0) pe_int (fun _ _ => rfl)) pa_nil)))
      (pss_cons (ps_if (PW.pt (pw_or (pt_not (pt_chain op_le op_le pe_int (pv 2) (pe_glob (v := .int 4) (by rfl) t.m_MOST_SIGNS ⟨_, rfl⟩))) (pw_or1 (pt_not (pt_val (pe_callB (id := "all") (cr_all rfl) (by rfl) t.n_all (by decide +kernel) (pa_cons (pe_lc (own := [("row", 3)]) (g := gName 3) (tt := tYes) rfl sc_is_machine.nd (pi_list (pv 0)) (blkOk_by (N := N_is_machine) (sc := defScope s_is_machine) (by decide +kernel)) (fun _ _ _ _ _ => (pg_name (i := 3) sc_is_machine.nd rfl (by first | exact Or.inl rfl | exact Or.inr rfl))) (fun _ _ _ _ _ => pts_nil) (fun _ _ _ _ _ => (pe_cmpR op_eq (pe_callB (id := "len") (crK (K := K) (r := rLenQ) rfl call_lenQ) (by rfl) t.n_len (by decide +kernel) (pa_cons (pv 3) pa_nil)) (pv 2) (nomark _)))) pa_nil))))))) (pss_one (ps_ret pe_bl)) pss_nil)
      (pss_one (ps_ret (pe_callB (id := "all") (cr_all rfl) (by rfl) t.n_all (by decide +kernel) (pa_cons (pe_lc (own := [("row", 3)]) (g := gName 3) (tt := tYes) rfl sc_is_machine.nd (pi_list (pv 0)) (blkOk_by (N := N_is_machine) (sc := defScope s_is_machine) (by decide +kernel)) (fun _ _ _ _ _ => (pg_name (i := 3) sc_is_machine.nd rfl (by first | exact Or.inl rfl | exact Or.inr rfl))) (fun _ _ _ _ _ => pts_nil) (fun _ _ _ _ _ => (pe_callB (id := "all") (crK (K := K) (r := rAll) rfl (cr_all rfl)) (by rfl) t.n_all (by decide +kernel) (pa_cons (pe_lc (own := [("entry", 4)]) (g := gName 4) (tt := tYes) rfl sc_is_machine.nd (pi_listK (K := K) rfl (pv 3)) (blkOk_by (N := N_is_machine) (sc := { kind := PySem.ScopeKind.function, names := [(PySem.Str.ofString ".0", PySem.NameKind.local), (PySem.Str.ofString "row", PySem.NameKind.local), (PySem.Str.ofString "all", PySem.NameKind.globalImplicit), (PySem.Str.ofString "rows", PySem.NameKind.cell), (PySem.Str.ofString "signs", PySem.NameKind.cell)], isGenerator := false, isCoroutine := false }) (by decide +kernel)) (fun _ _ _ _ _ => (pg_name (i := 4) sc_is_machine.nd rfl (by first | exact Or.inl rfl | exact Or.inr rfl))) (fun _ _ _ _ _ => pts_nil) (fun _ _ _ _ _ => (pe_call (ok_is_entry t) (hr.mono (by decide)) (by rfl) t.m_is_entry t.F_is_entry.kp t.b_is_entry .nil pass0 (pa_cons (pv 4) (pa_cons (pv 1) (pa_cons (pv 2) pa_nil)))))) pa_nil)))) pa_nil)))))))), ?_⟩
    have g0 : Gr mu0 F H F H := Gr.refl sF
    have r1 := hM.r1
    have r4 := hM.r4
    have s2 := hM.s2
    have s4 := hM.s4
    obtain ⟨a, rs, rfl, ha, hrs⟩ := hv
    have lrs : rs.length = R := hrs.1.trans hM.len
    have h0 := sF _ _ ha
    have l0 : 0 < rs.length := by omega
    have hx0 : rs[0]? = some rs[0] := List.getElem?_eq_getElem l0
    obtain ⟨row0, hM0, hr0⟩ := hrs.get' hx0
    obtain ⟨a0, es0, e0, ha0, hes0⟩ := hr0
    have ls0 : es0.length = S := hes0.1.trans (hM.row _ (List.mem_of_getElem? hM0))
    have hb0 := sF _ _ ha0
    -- rows = len(machine); signs = len(machine[0])
    refine ⟨_, rfl, a, rs, rfl, .inl (SqL.of h0), _, rfl, _, _, rfl, rfl, _, rfl, ifT (decide_eq_true (by omega)) ⟨_, _, rfl, rfl, _, rfl, ?_⟩⟩
    refine ifF (by rw [decide_eq_true (show (rs.length : Int) ≤ 4 by omega)]; rfl) ?_
    refine ⟨_, rfl, a, rs, _, _, rfl, rfl, SqL.of h0, atI_nat (j := 0) hx0, ?_⟩
    rw [e0]
    refine ⟨a0, es0, rfl, .inl (SqL.of hb0), _, rfl, _, _, rfl, rfl, _, rfl, ifT (decide_eq_true (by omega)) ⟨_, _, rfl, rfl, _, rfl, ?_⟩⟩
    refine ifF (by rw [decide_eq_true (show (es0.length : Int) ≤ 4 by omega)]; rfl) ?_
    -- all([len(row) == signs for row in machine])
    refine ⟨_, rfl, a, rfl, ⟨_, SqL.of h0⟩, fun D nD => lc_list (K := K) (a := a) (xs := rs) (fun i G => Gr mu0 F H F G ∧ G D = some (.lst (List.replicate i (V.bl true)))) ⟨g0.own nD, upd_same⟩ (fun i G _ p => SqL.of (p.1.fh _ _ ha)) ?_ ?_⟩
    · rintro i x G hi ⟨gG, hD⟩
      obtain ⟨row, hMi, b, es, rfl, hb, hes⟩ := hrs.get' hi
      have ls : es.length = S := hes.1.trans (hM.row _ (List.mem_of_getElem? hMi))
      have il : i < rs.length := (List.getElem?_eq_some_iff.mp hi).1
      refine ⟨rfl, ?_⟩
      refine yes ⟨_, rfl, b, es, rfl, .inl (SqL.of (gG.fh _ _ hb)), _, rfl, rfl, _, hD, by rw [List.length_replicate]; exact lt_size (by omega), ?_⟩
      have e : (V.bl (decide (V.int (es.length : Int) = V.int (es0.length : Int)))) = V.bl true := by rw [ls, ls0]; simp
      rw [e, rep_snoc]
      exact ⟨gG.set (ne_of_none' sF nD) (.inl nD), upd_same⟩
    · rintro G ⟨gG, hD⟩
      refine ⟨D, List.replicate rs.length true, rfl, SqL.of (by rw [map_rep]; exact hD), _, rfl, ifF (by rw [all_rep]; rfl) ?_⟩
      -- all([all([is_entry(entry, rows, signs) for entry in row]) for row in machine])
      refine ⟨_, rfl, a, rfl, ⟨_, SqL.of (gG.fh _ _ ha)⟩, fun D1 nD1 => lc_list (K := K) (a := a) (xs := rs) (fun i G1 => Gr mu0 F H F G1 ∧ H D1 = none ∧ G1 D1 = some (.lst (List.replicate i (V.bl true)))) ⟨gG.own nD1, gG.th _ nD1, upd_same⟩ (fun i G1 _ p => SqL.of (p.1.fh _ _ ha)) ?_ ?_⟩
      · rintro i x G1 hi ⟨gG1, nH, hD1⟩
        obtain ⟨row, hMi, b, es, rfl, hb, hes⟩ := hrs.get' hi
        have ls : es.length = S := hes.1.trans (hM.row _ (List.mem_of_getElem? hMi))
        have il : i < rs.length := (List.getElem?_eq_some_iff.mp hi).1
        refine ⟨rfl, yes ⟨_, rfl, b, rfl, ⟨_, SqL.of (gG1.fh _ _ hb)⟩, fun D2 nD2 => lc_list (K := K) (a := b) (xs := es) (fun j G2 => Gr mu0 F H F G2 ∧ H D2 = none ∧ D1 ≠ D2 ∧ G2 D1 = some (.lst (List.replicate i (V.bl true))) ∧ G2 D2 = some (.lst (List.replicate j (V.bl true))))
          ⟨gG1.own nD2, gG1.th _ nD2, ne_of_none hD1 nD2, by rw [upd_ne (ne_of_none hD1 nD2)]; exact hD1, upd_same⟩ (fun j G2 _ p => SqL.of (p.1.fh _ _ hb)) ?_ ?_⟩⟩
        · rintro j y G2 hj ⟨gG2, nH2, d12, h1, h2⟩
          obtain ⟨e, hej, hye⟩ := hes.get' hj
          have jl : j < es.length := (List.getElem?_eq_some_iff.mp hj).1
          refine ⟨rfl, yes ⟨_, rfl, _, rfl, _, rfl, F, y, e, R, S, ?_, gG2.fh, hye, hM.ent _ (List.mem_of_getElem? hMi) _ (List.mem_of_getElem? hej), fun G3 g3 => ?_⟩⟩
          · rw [lrs, ls0]
            rfl
          · have gH3 := gG2.trans g3
            refine ⟨_, g3.fr _ _ h2 (fun z => z), by rw [List.length_replicate]; exact lt_size (by omega), ?_⟩
            rw [rep_snoc]
            exact ⟨gH3.set (sF.free nH2) (.inl nH2), nH2, d12, by rw [upd_ne d12]; exact g3.fr _ _ h1 (fun z => z), upd_same⟩
        · rintro G2 ⟨gG2, nH2, d12, h1, h2⟩
          refine ⟨D2, List.replicate es.length true, rfl, SqL.of (by rw [map_rep]; exact h2), ?_⟩
          refine ⟨_, h1, by rw [List.length_replicate]; exact lt_size (by omega), ?_⟩
          rw [all_rep, rep_snoc]
          exact ⟨gG2.set (sF.free nH) (.inl nH), nH, upd_same⟩
      · rintro G1 ⟨gG1, nH, hD1⟩
        refine ⟨D1, List.replicate rs.length true, rfl, SqL.of (by rw [map_rep]; exact hD1), ?_⟩
        rw [all_rep]
        exact q _ gG1
def sp_must_machine : Sp := fun vs H Q _ => ∃ (F : Hp) (v : V) (M : Mach) (R S : Nat), vs = [v] ∧ Same F H ∧ Is F v M ∧ MOk M R S ∧ ∀ H', Gr mu0 F H F H' → Q .non H'
theorem ok_must_machine (t : Tx K mg) : FnOk P w K mg base CX0 3 t.a_must_machine t.fd_must_machine ["machine"] sp_must_machine := by
  refine t.F_must_machine.ok sc_must_machine (fun vs H Q E h => ?_) (fun cdv A outer s H vs Q E hr h => ?_)
  · obtain ⟨F, v, M, R, S, rfl, _⟩ := h
    rfl
  · obtain ⟨F, v, M, R, S, rfl, sF, hv, hM, q⟩ := h
    refine ⟨_, (pss_one (ps_if (pt_not (pt_val (pe_call (ok_is_machine t) (hr.mono (by decide)) (by rfl) t.m_is_machine t.F_is_machine.kp t.b_is_machine .nil pass0 (pa_cons (pv 0) pa_nil)))) (pss_one ps_never) pss_nil)), ?_⟩
    exact ⟨_, rfl, F, _, M, R, S, rfl, sF, hv, hM, fun H' g => ⟨_, rfl, ifF rfl (q _ g)⟩⟩
/-! ### a machine on its way -/
/-- a Goer stands at g, its dict at d -/
structure GoAt (C : Addr) (H : Hp) (g d : Addr) (tb : V) (r s : Int) (l : List PI) (n : Int) : Prop where
  ob : ∃ dx, H g = some (.ins C dx (Goer_F tb (.int r) (.int s) (.ref d) (.int n)))
  dc : H d = some (.dK (dI l))
theorem GoAt.ne {C : Addr} {H : Hp} {g d : Addr} {tb : V} {r s : Int} {l : List PI} {n : Int} (h : GoAt C H g d tb r s l n) : g ≠ d := by
  obtain ⟨dx, e⟩ := h.ob
  exact ne_of e h.dc (by intro z; cases z)
theorem GoAt.gr {mu : Addr → Prop} {C : Addr} {F H F' H' : Hp} {g d : Addr} {tb : V} {r s : Int} {l : List PI} {n : Int} (h : GoAt C H g d tb r s l n) (a : Gr mu F H F' H') (hg : ¬ mu g) (hd : ¬ mu d) : GoAt C H' g d tb r s l n := by
  obtain ⟨dx, e⟩ := h.ob
  exact ⟨⟨dx, a.fr _ _ e hg⟩, a.fr _ _ h.dc hd⟩
/-- places, and strips that are told, as a setup -/
abbrev Setup := T3 Int Int (List PI)
def sp_Goer_init (C : Addr) : Sp := fun vs H Q _ => ∃ (F : Hp) (g dx : Addr) (tb u : V) (x : Setup), vs = [.ref g, tb, u] ∧ H g = some (.ins C dx []) ∧ F g = none ∧ Same F H ∧ Is F u x ∧
  ∀ (d : Addr) (H' : Hp), H d = none → Gr (muP g) F H F H' → GoAt C H' g d tb x.a x.b (merge [] x.c) 0 → Q .non H'
theorem ok_Goer_init (t : Tx K mg) : FnOk P w K mg base CX0 1 t.a_Goer_init t.fd_Goer_init ["self", "machine", "setup"] (sp_Goer_init t.C_Goer) := by
  refine t.F_Goer_init.ok sc_Goer_init (fun vs H Q E h => ?_) (fun cdv A outer s H vs Q E hr h => ?_)
  · obtain ⟨F, g, dx, tb, u, x, rfl, _⟩ := h
    rfl
  · obtain ⟨F, g, dx, tb, u, x, rfl, hg, fg, sF, hu, q⟩ := h
    refine ⟨_, (pss_cons (ps_fld (pv 0) (pv 1) rfl)
      (pss_cons (ps_fld (pv 0) (pe_ix ix_tup (pv 2) pe_int (fun _ _ => rfl)) rfl)
      (pss_cons (ps_fld (pv 0) (pe_ix ix_tup (pv 2) pe_int (fun _ _ => rfl)) rfl)
      (pss_cons (ps_fld (pv 0) (pe_callTy (T := "dict") (call_dictQ rfl) (by rfl) t.n_dict (by decide +kernel) (pa_cons (pe_ix ix_tup (pv 2) pe_int (fun _ _ => rfl)) pa_nil)) rfl)
      (pss_one (ps_fld (pv 0) pe_int rfl)))))), ?_⟩
    obtain ⟨p, x1, x2, x3, rfl, hp, e1, e2, hl⟩ := hu
    have e1 : x1 = .int x.a := e1
    have e2 : x2 = .int x.b := e2
    subst e1
    subst e2
    obtain ⟨a, xs, rfl, ha, hxs⟩ := hl
    have g0 : Gr (muP g) F H F H := Gr.refl sF
    refine ⟨_, rfl, _, rfl, g, t.C_Goer, dx, [], rfl, hg, t.cl_Goer, t.nA_Goer_table, by show 0 < 1000; decide, ?_⟩
    have g1 := g0.set (o := .ins t.C_Goer dx [("table", tb)]) fg (.inr rfl)
    rw [Goer_mk0]
    refine ⟨_, rfl, p, _, _, _, rfl, rfl, SqT.of (g1.fh _ _ hp), atI_nat (j := 0) rfl, _, rfl, g, t.C_Goer, dx, _, rfl, upd_same, t.cl_Goer, t.nA_Goer_row, by show 1 < 1000; decide, ?_⟩
    have g2 := g1.set (o := .ins t.C_Goer dx [("table", tb), ("row", .int x.a)]) fg (.inr rfl)
    rw [Goer_mk1]
    refine ⟨_, rfl, p, _, _, _, rfl, rfl, SqT.of (g2.fh _ _ hp), atI_nat (j := 1) rfl, _, rfl, g, t.C_Goer, dx, _, rfl, upd_same, t.cl_Goer, t.nA_Goer_spot, by show 2 < 1000; decide, ?_⟩
    have g3 := g2.set (o := .ins t.C_Goer dx [("table", tb), ("row", .int x.a), ("spot", .int x.b)]) fg (.inr rfl)
    rw [Goer_mk2]
    refine ⟨_, rfl, p, _, _, _, rfl, rfl, SqT.of (g3.fh _ _ hp), atI_nat (j := 2) rfl, ?_⟩
    refine dict_pairs (hxs.up g3.fh) (SqL.of (g3.fh _ _ ha)) fun d nd => ?_
    have g4 := g3.own (o := .dK (dI (merge [] x.c))) nd
    have gd : g ≠ d := ne_of_none upd_same nd
    refine ⟨_, rfl, g, t.C_Goer, dx, _, rfl, (upd_ne gd).trans upd_same, t.cl_Goer, t.nA_Goer_signs, by show 3 < 1000; decide, ?_⟩
    have g5 := g4.set (o := .ins t.C_Goer dx [("table", tb), ("row", .int x.a), ("spot", .int x.b), ("signs", .ref d)]) fg (.inr rfl)
    rw [Goer_mk3]
    refine ⟨_, rfl, g, t.C_Goer, dx, _, rfl, upd_same, t.cl_Goer, t.nA_Goer_steps, by show 4 < 1000; decide, ?_⟩
    have g6 := g5.set (o := .ins t.C_Goer dx [("table", tb), ("row", .int x.a), ("spot", .int x.b), ("signs", .ref d), ("steps", .int 0)]) fg (.inr rfl)
    rw [Goer_mk4]
    exact q d _ (g3.th _ nd) g6 ⟨⟨dx, upd_same⟩, by rw [upd_ne gd.symm, upd_ne gd.symm, upd_same]⟩
def sp_Goer_entry (C : Addr) : Sp := fun vs H Q _ => ∃ (F : Hp) (g d : Addr) (tb : V) (M : Mach) (r s : Int) (l : List PI) (n : Int) (row : List Ent) (e : Ent), vs = [.ref g] ∧ Same F H ∧ Is F tb M ∧ GoAt C H g d tb r s l n ∧
  0 ≤ r ∧ M[r.toNat]? = some row ∧ 0 ≤ (look l s).getD 0 ∧ row[((look l s).getD 0).toNat]? = some e ∧ ∀ v, Is F v e → Q v H
theorem ok_Goer_entry (t : Tx K mg) : FnOk P w K mg base CX0 1 t.a_Goer_entry t.fd_Goer_entry ["self"] (sp_Goer_entry t.C_Goer) := by
  refine t.F_Goer_entry.ok sc_Goer_entry (fun vs H Q E h => ?_) (fun cdv A outer s H vs Q E hr h => ?_)
  · obtain ⟨F, g, d, tb, M, r, s, l, n, row, e, rfl, _⟩ := h
    rfl
  · obtain ⟨F, g, d, tb, M, r, s, l, n, row, e, rfl, sF, hM, hg, hr0, hrow, hs0, he, q⟩ := h
    refine ⟨_, (pss_one (ps_ret (pe_ix ix_list (pe_ix ix_list (pe_fld (pv 0) rfl) (pe_fld (pv 0) rfl) (fun _ _ => rfl)) (pe_dget2 (hu_of hr) (pe_fld (pv 0) rfl) (pe_fld (pv 0) rfl) pe_int ⟨by rfl, by rfl, by rfl, by rfl⟩) (fun _ _ => rfl)))), ?_⟩
    obtain ⟨⟨dx, ho⟩, hd⟩ := id hg
    obtain ⟨a, rs, rfl, ha, hrs⟩ := hM
    obtain ⟨x, hx, b, es, rfl, hb, hes⟩ := hrs.get hrow
    obtain ⟨y, hy, hye⟩ := hes.get he
    refine ⟨_, rfl, g, t.C_Goer, dx, _, _, rfl, ho, t.cl_Goer, t.nA_Goer_table, Goer_get_table, ?_⟩
    refine ⟨_, rfl, g, t.C_Goer, dx, _, _, rfl, ho, t.cl_Goer, t.nA_Goer_row, Goer_get_row, a, _, _, _, rfl, rfl, SqL.of (sF _ _ ha), at_of (Int.toNat_of_nonneg hr0).symm hx, ?_⟩
    refine ⟨_, rfl, g, t.C_Goer, dx, _, _, rfl, ho, t.cl_Goer, t.nA_Goer_signs, Goer_get_signs, d, rfl, .inl ⟨_, .inl hd⟩, _, rfl, g, t.C_Goer, dx, _, _, rfl, ho, t.cl_Goer, t.nA_Goer_spot, Goer_get_spot, _, DGet.k (k := Sum.inl s) hd, ?_⟩
    rw [dI_val]
    have e1 : ((look l s).map V.int).getD (.int 0) = .int ((look l s).getD 0) := by cases look l s <;> rfl
    rw [e1]
    exact ⟨b, _, _, _, rfl, rfl, SqL.of (sF _ _ hb), at_of (Int.toNat_of_nonneg hs0).symm hy, q _ hye⟩
def sp_Goer_step (C : Addr) : Sp := fun vs H Q _ => ∃ (F : Hp) (g d : Addr) (tb : V) (M : Mach) (r s : Int) (l : List PI) (n : Int) (row : List Ent) (e : Ent), vs = [.ref g] ∧ Same F H ∧ F g = none ∧ F d = none ∧ Is F tb M ∧ GoAt C H g d tb r s l n ∧
  0 ≤ r ∧ M[r.toNat]? = some row ∧ 0 ≤ (look l s).getD 0 ∧ row[((look l s).getD 0).toNat]? = some e ∧ l.length ≤ 100000 ∧
  (e = .emp → ∀ H', Gr mu0 F H F H' → Q (.bl false) H') ∧
  (∀ p w r', e = .go p w r' → ∀ H', Gr (fun c => c = g ∨ c = d) F H F H' → GoAt C H' g d tb r' (s + w) (put l s p) (n + 1) → Q (.bl true) H')
theorem ok_Goer_step (t : Tx K mg) : FnOk P w K mg base CX0 2 t.a_Goer_step t.fd_Goer_step ["self"] (sp_Goer_step t.C_Goer) := by
  refine t.F_Goer_step.ok sc_Goer_step (fun vs H Q E h => ?_) (fun cdv A outer s H vs Q E hr h => ?_)
  · obtain ⟨F, g, d, tb, M, r, s, l, n, row, e, rfl, _⟩ := h
    rfl
  · obtain ⟨F, g, d, tb, M, r, s, l, n, row, e, rfl, sF, fg, fd, hM, hg, hr0, hrow, hs0, he, hl, q1, q2⟩ := h
    refine ⟨_, (pss_cons (ps_set (i := 1) sc_Goer_step.nd rfl (by first | exact Or.inl rfl | exact Or.inr rfl) (pe_meth0 (pv 0) t.cl_Goer t.M_Goer_entry (ok_Goer_entry t) (hr.mono (by decide)) t.b_Goer_entry .nil pass0))
      (pss_cons (ps_if (pt_cmpR (op_eqD hr.units) (pv 1) (pe_tup pa_nil) (nomark _)) (pss_one (ps_ret pe_bl)) pss_nil)
      (pss_cons (ps_dput (hu_of hr) (pe_fld (pv 0) rfl) (pe_fld (pv 0) rfl) (pe_ix ix_tup (pv 1) pe_int (fun _ _ => rfl)) rfl)
      (pss_cons (ps_fldaug (pv 0) (pe_ix ix_tup (pv 1) pe_int (fun _ _ => rfl)) in_add)
      (pss_cons (ps_fld (pv 0) (pe_ix ix_tup (pv 1) pe_int (fun _ _ => rfl)) rfl)
      (pss_cons (ps_fldaug (pv 0) pe_int in_add)
      (pss_one (ps_ret pe_bl)))))))), ?_⟩
    obtain ⟨⟨dx, ho⟩, hd⟩ := id hg
    have gd := hg.ne
    have g0 : Gr (fun c => c = g ∨ c = d) F H F H := Gr.refl sF
    have g00 : Gr mu0 F H F H := Gr.refl sF
    refine ⟨_, rfl, g, dx, _, rfl, ho, Goer_no (by decide +kernel) (by decide +kernel) (by decide +kernel) (by decide +kernel) (by decide +kernel), F, g, d, tb, M, r, s, l, n, row, e, rfl, sF, hM, hg, hr0, hrow, hs0, he, fun v hv => ?_⟩
    refine ⟨_, rfl, nil_le, fun p np => ?_⟩
    refine eq_dat (a := e) (b := Ent.emp) (hv.up (g0.own np).fh) ⟨p, rfl, upd_same⟩ ?_
    refine ⟨_, rfl, ?_⟩
    refine ite2 (fun c => ?_) (fun c => ?_)
    · exact q1 (of_decide_eq_true c) _ (g00.own np)
    · cases e with
      | emp => exact absurd (decide_eq_true rfl) c
      | go pu wa ro =>
        obtain ⟨a, rfl, ha⟩ := hv
        have g1 := g0.own (o := .tup []) np
        have gp : g ≠ p := ne_of_none ho np
        have dp : d ≠ p := ne_of_none hd np
        have ho1 := (upd_ne (H := H) (o := .tup []) gp).trans ho
        have hd1 := (upd_ne (H := H) (o := .tup []) dp).trans hd
        -- self.signs[self.spot] = entry[0]
        refine ⟨_, rfl, a, _, _, _, rfl, rfl, SqT.of (g1.fh _ _ ha), atI_nat (j := 0) rfl, _, rfl, g, t.C_Goer, dx, _, _, rfl, ho1, t.cl_Goer, t.nA_Goer_signs, Goer_get_signs, _, rfl, g, t.C_Goer, dx, _, _, rfl, ho1, t.cl_Goer, t.nA_Goer_spot, Goer_get_spot, d, _, rfl, DPut.k (k := Sum.inl s) hd1 (by show (dI l).length < _; unfold dI; rw [List.length_map]; exact lt_size (by omega)), ?_⟩
        rw [dI_put]
        have g2 := g1.set (o := .dK (dI (put l s pu))) fd (.inr (.inr rfl))
        have ho2 := (upd_ne (H := upd H p (.tup [])) (o := .dK (dI (put l s pu))) gd).trans ho1
        -- self.spot += entry[1]
        refine ⟨_, rfl, g, t.C_Goer, dx, _, _, rfl, ho2, t.cl_Goer, t.nA_Goer_spot, Goer_get_spot, _, rfl, a, _, _, _, rfl, rfl, SqT.of (g2.fh _ _ ha), atI_nat (j := 1) rfl, _, _, rfl, rfl, _, _, ho2, Goer_few, ?_⟩
        rw [Goer_put_spot]
        have g3 := g2.set (o := .ins t.C_Goer dx (Goer_F tb (.int r) (.int (s + wa)) (.ref d) (.int n))) fg (.inr (.inl rfl))
        -- self.row = entry[2]
        refine ⟨_, rfl, a, _, _, _, rfl, rfl, SqT.of (g3.fh _ _ ha), atI_nat (j := 2) rfl, _, rfl, g, t.C_Goer, dx, _, rfl, upd_same, t.cl_Goer, t.nA_Goer_row, Goer_few, ?_⟩
        rw [Goer_put_row]
        have g4 := g3.set (o := .ins t.C_Goer dx (Goer_F tb (.int ro) (.int (s + wa)) (.ref d) (.int n))) fg (.inr (.inl rfl))
        -- self.steps += 1
        refine ⟨_, rfl, g, t.C_Goer, dx, _, _, rfl, upd_same, t.cl_Goer, t.nA_Goer_steps, Goer_get_steps, _, _, rfl, rfl, _, _, upd_same, Goer_few, ?_⟩
        rw [Goer_put_steps]
        have g5 := g4.set (o := .ins t.C_Goer dx (Goer_F tb (.int ro) (.int (s + wa)) (.ref d) (.int (n + 1)))) fg (.inr (.inl rfl))
        refine q2 _ _ _ rfl _ g5 ⟨⟨dx, upd_same⟩, ?_⟩
        rw [upd_ne gd.symm, upd_ne gd.symm, upd_ne gd.symm, upd_same]
def sp_told_strip : Sp := fun vs H Q _ => ∃ (F : Hp) (d : Addr) (l : List PI), vs = [.ref d] ∧ Same F H ∧ H d = some (.dK (dI l)) ∧ l.length ≤ 100000 ∧
  ∀ (F' H' : Hp) (p : Addr) (xs : List V), Gr mu0 F H F' H' → Ow H F' H' p (.lst xs) → IsAll F' xs (told l) → Q (.ref p) H'
theorem ok_told_strip (t : Tx K mg) : FnOk P w K mg base CX0 1 t.a_told_strip t.fd_told_strip ["signs"] sp_told_strip := by
  refine t.F_told_strip.ok sc_told_strip (fun vs H Q E h => ?_) (fun cdv A outer s H vs Q E hr h => ?_)
  · obtain ⟨F, d, l, rfl, _⟩ := h
    rfl
  · obtain ⟨F, d, l, rfl, sF, hd, hl, q⟩ := h
    refine ⟨_, (pss_one (ps_ret (pe_callB (id := "sorted") call_sortQ (by rfl) t.n_sorted (by decide +kernel) (pa_cons (pe_lock (pe_lc (own := [("place", 1), ("sign", 2)]) rfl sc_told_strip.nd (pi_items (pv 0)) (blkOk_by (N := N_told_strip) (sc := defScope s_told_strip) (by decide +kernel)) (fun _ _ _ _ _ => (pg_tupK (K := K) (n := 2) rfl rfl (pgs_cons (pg_name (i := 1) sc_told_strip.nd rfl (by first | exact Or.inl rfl | exact Or.inr rfl)) (pgs_cons (pg_name (i := 2) sc_told_strip.nd rfl (by first | exact Or.inl rfl | exact Or.inr rfl)) pgs_nil)))) (fun _ _ _ _ _ => (pts_one (pt_cmpR op_ne (pv 2) pe_int (nomark _)))) (fun _ _ _ _ _ => (pe_tup (pa_cons (pv 1) (pa_cons (pv 2) pa_nil)))))) pa_nil)))), ?_⟩
    refine ⟨d, _, hd, trivial, fun od => ?_⟩
    have sL := lock_in (d := d) (o := .frz od (.dK (dI l))) sF
    have g0 : Gr mu0 _ (upd H d (.frz od (.dK (dI l)))) _ (upd H d (.frz od (.dK (dI l)))) := Gr.refl sL
    have dl : (dI l).length = l.length := by unfold dI; rw [List.length_map]
    generalize eH1 : upd H d (.frz od (.dK (dI l))) = H1 at g0
    generalize eF1 : (fun c => if c = d then none else F c) = F1 at g0
    have hd1 : H1 d = some (.frz od (.dK (dI l))) := by rw [← eH1]; exact upd_same
    refine ⟨_, rfl, d, od, dI l, rfl, hd1, fun D nD => lc_it walk_items (fun i G => ∃ F2 xs, Gr mu0 F1 H1 F2 G ∧ Ow H1 F2 G D (.lst xs) ∧ IsAll F2 xs ((l.take i).filter nz)) ⟨F1, [], g0.own nD, Ow.mk1 g0 nD, All2.nil⟩ (fun i G _ ⟨F2, xs, g, _⟩ => g.fr _ _ hd1 (fun z => z)) ?_ ?_⟩
    · rintro i x G G' hi ⟨F2, xs, g, w, al⟩ ⟨T, x1, x2, rfl, nT, rfl, e1, e2⟩
      rw [dl] at hi
      have e1 : (dI l)[i]?.map (fun kv => kV kv.1) = some x1 := e1
      have e2 : (dI l)[i]?.map Prod.snd = some x2 := e2
      rw [dI_get hi] at e1 e2
      cases e1
      cases e2
      have g1 := g.new (o := .tup [.int l[i].a, .int l[i].b]) nT
      have w1 := w.new (u := .tup [.int l[i].a, .int l[i].b]) nT
      refine ⟨T, _, rfl, SqT.of upd_same, rfl, _, _, rfl, _, _, rfl, rfl, rfl, _, rfl, rfl, _, rfl, ?_⟩
      rw [filter_take_succ hi]
      refine ite2 (fun c => ?_) (fun c => ?_)
      · have c' : nz l[i] = true := by
          refine decide_eq_true fun z => ?_
          have c : (!decide (V.int l[i].b = V.int 0)) = true := c
          rw [z, decide_eq_true rfl] at c
          cases c
        rw [if_pos c']
        refine ⟨_, rfl, _, rfl, two_le, fun T2 nT2 => ⟨xs, (w1.new nT2).h, ?_, ?_⟩⟩
        · rw [al.1]
          exact lt_size (Nat.le_trans (List.length_filter_le _ _) (by rw [List.length_take]; omega))
        · have g2 := g1.new (o := .tup [.int l[i].a, .int l[i].b]) nT2
          have w2 := w1.new (u := .tup [.int l[i].a, .int l[i].b]) nT2
          refine ⟨_, _, g2.set w2.f (.inl w2.n), w2.set, (al.up (fun c o h => ?_)).app (All2.one ⟨T2, _, _, rfl, upd_same, rfl, rfl⟩)⟩
          rw [upd_ne (ne_of_none (g1.fh _ _ ((Gr.refl (mu := mu0) g.fh).new nT |>.ff c o h)) nT2)]
          exact (Gr.refl (mu := mu0) g.fh).new nT |>.ff c o h
      · have c' : ¬ nz l[i] = true := fun z => by
          refine c ?_
          have z := of_decide_eq_true z
          show (!decide (V.int l[i].b = V.int 0)) = true
          rw [decide_eq_false (fun e => z (V.int.inj e))]; rfl
        rw [if_neg c', List.append_nil]
        exact ⟨_, xs, g1, w1, al.up ((Gr.refl (mu := mu0) g.fh).new nT).ff⟩
    · rintro G ⟨F2, xs, g, w, al⟩
      rw [dl, List.take_length] at al
      subst eH1
      subst eF1
      obtain ⟨h1, h2, h3⟩ := lock_out sF hd g
      refine ⟨h1, ?_⟩
      have hDd : D ≠ d := by
        rintro rfl
        rw [w.h] at h1; cases h1
      refine sort_pairs (K := K) (l := l.filter nz) (xs := xs) h3.fh (al.up h2) (SqL.of (by rw [upd_ne hDd]; exact w.h)) fun ys p np hys => ?_
      exact q _ _ p ys (h3.own np) (Ow.mk1 h3 np) hys
def sp_Goer_setup (C : Addr) : Sp := fun vs H Q _ => ∃ (F : Hp) (g d : Addr) (tb : V) (r s : Int) (l : List PI) (n : Int), vs = [.ref g] ∧ Same F H ∧ GoAt C H g d tb r s l n ∧ l.length ≤ 100000 ∧
  ∀ (F' H' : Hp) (p u : Addr) (xs : List V), Gr mu0 F H F' H' → Ow H F' H' p (.lst xs) → IsAll F' xs (told l) → Ow H F' H' u (.tup [.int r, .int s, .ref p]) → Q (.ref u) H'
theorem ok_Goer_setup (t : Tx K mg) : FnOk P w K mg base CX0 2 t.a_Goer_setup t.fd_Goer_setup ["self"] (sp_Goer_setup t.C_Goer) := by
  refine t.F_Goer_setup.ok sc_Goer_setup (fun vs H Q E h => ?_) (fun cdv A outer s H vs Q E hr h => ?_)
  · obtain ⟨F, g, d, tb, r, s, l, n, rfl, _⟩ := h
    rfl
  · obtain ⟨F, g, d, tb, r, s, l, n, rfl, sF, hg, hl, q⟩ := h
    refine ⟨_, (pss_one (ps_ret (pe_tup (pa_cons (pe_fld (pv 0) rfl) (pa_cons (pe_fld (pv 0) rfl) (pa_cons (pe_call (ok_told_strip t) (hr.mono (by decide)) (by rfl) t.m_told_strip t.F_told_strip.kp t.b_told_strip .nil pass0 (pa_cons (pe_fld (pv 0) rfl) pa_nil)) pa_nil)))))), ?_⟩
    obtain ⟨⟨dx, ho⟩, hd⟩ := id hg
    refine ⟨_, rfl, g, t.C_Goer, dx, _, _, rfl, ho, t.cl_Goer, t.nA_Goer_row, Goer_get_row, _, rfl, g, t.C_Goer, dx, _, _, rfl, ho, t.cl_Goer, t.nA_Goer_spot, Goer_get_spot, _, rfl, g, t.C_Goer, dx, _, _, rfl, ho, t.cl_Goer, t.nA_Goer_signs, Goer_get_signs, ?_⟩
    refine ⟨F, d, l, rfl, sF, hd, hl, fun F' H' p xs gr w al => ⟨three_le, fun u nu => ?_⟩⟩
    exact q F' _ p u xs (gr.own nu) (w.own nu) al (Ow.mk1 gr nu)
/-! ### machines drawn: lists that may be changed yet -/
structure MaO (H F1 H1 : Hp) (m : Addr) (rs : List Addr) (ess : List (List V)) (M : Mach) : Prop where
  ow : Ow H F1 H1 m (.lst (rs.map V.ref))
  nd : rs.Nodup
  ne : m ∉ rs
  len : rs.length = ess.length
  rows : ∀ (i : Nat) r es, rs[i]? = some r → ess[i]? = some es → Ow H F1 H1 r (.lst es)
  dat : All2 (fun es row => IsAll F1 es row) ess M
section
variable {mu mu' : Addr → Prop} {H F F1 H1 F2 H2 : Hp} {m : Addr} {rs : List Addr} {ess : List (List V)} {M : Mach}
theorem MaO.row (x : MaO H F1 H1 m rs ess M) {r : Addr} (h : r ∈ rs) : ∃ es, Ow H F1 H1 r (.lst es) := by
  obtain ⟨i, hi⟩ := List.getElem?_of_mem h
  have l := (List.getElem?_eq_some_iff.mp hi).1
  exact ⟨ess[i]'(by rw [← x.len]; exact l), x.rows i r _ hi (List.getElem?_eq_getElem _)⟩
theorem MaO.gr (x : MaO H F1 H1 m rs ess M) (g : Gr mu F1 H1 F2 H2) (k : ∀ c, mu c → c ≠ m ∧ c ∉ rs) : MaO H F2 H2 m rs ess M where
  ow := x.ow.call g fun z => (k m z).1 rfl
  nd := x.nd
  ne := x.ne
  len := x.len
  rows := fun i r es h1 h2 => (x.rows i r es h1 h2).call g fun z => (k r z).2 (List.mem_of_getElem? h1)
  dat := x.dat.imp fun es row z => z.up g.ff
theorem MaO.off (x : MaO H F1 H1 m rs ess M) {p : Addr} {o : HO} (h : H p = some o) : ∀ c, muP p c → c ≠ m ∧ c ∉ rs := fun c e => by
  rw [show c = p from e]
  refine ⟨fun z => ?_, fun z => ?_⟩
  · rw [z, x.ow.n] at h; cases h
  · obtain ⟨es, w⟩ := x.row z
    rw [w.n] at h; cases h
theorem MaO.offn (x : MaO H F1 H1 m rs ess M) {p : Addr} (h : H1 p = none) : p ≠ m ∧ p ∉ rs := by
  refine ⟨fun z => ?_, fun z => ?_⟩
  · rw [z, x.ow.h] at h; cases h
  · obtain ⟨es, w⟩ := x.row z
    rw [w.h] at h; cases h
/-- a row that is done comes in -/
theorem MaO.add (x : MaO H F1 H1 m rs ess M) {r : Addr} {es : List V} {row : List Ent} (w : Ow H F1 H1 r (.lst es)) (k : r ≠ m ∧ r ∉ rs) (d : IsAll F1 es row) : MaO H F1 (upd H1 m (.lst ((rs ++ [r]).map V.ref))) m (rs ++ [r]) (ess ++ [es]) (M ++ [row]) where
  ow := x.ow.set
  nd := nd_snoc x.nd k.2
  ne := fun z => by
    rcases List.mem_append.mp z with z | z
    · exact x.ne z
    · exact k.1 (List.mem_singleton.mp z).symm
  len := by rw [List.length_append, List.length_append, x.len]; rfl
  rows := fun i r' es' h1 h2 => by
    by_cases l : i < rs.length
    · rw [List.getElem?_append_left l] at h1
      rw [List.getElem?_append_left (by rw [← x.len]; exact l)] at h2
      exact (x.rows i r' es' h1 h2).other fun z => x.ne (by rw [← z]; exact List.mem_of_getElem? h1)
    · rw [List.getElem?_append_right (by omega)] at h1
      rw [List.getElem?_append_right (by rw [← x.len]; omega), ← x.len] at h2
      cases e : i - rs.length with
      | zero =>
        rw [e] at h1 h2
        cases h1; cases h2
        exact w.other k.1
      | succ n => rw [e] at h1; cases h1
  dat := x.dat.app (All2.one d)
/-- an entry of it is changed -/
theorem MaO.put (x : MaO H F1 H1 m rs ess M) {i j : Nat} {r : Addr} {es : List V} {row : List Ent} {v : V} {e : Ent} (hr : rs[i]? = some r) (hes : ess[i]? = some es) (hrow : M[i]? = some row) (hv : Is F1 v e) :
    MaO H F1 (upd H1 r (.lst (es.set j v))) m rs (ess.set i (es.set j v)) (M.set i (row.set j e)) where
  ow := x.ow.other fun z => x.ne (by rw [z]; exact List.mem_of_getElem? hr)
  nd := x.nd
  ne := x.ne
  len := by rw [List.length_set]; exact x.len
  rows := fun i' r' es' h1 h2 => by
    by_cases e : i = i'
    · subst e
      rw [hr] at h1
      cases h1
      rw [List.getElem?_set_self (List.getElem?_eq_some_iff.mp hes).1] at h2
      cases h2
      exact (x.rows i r es hr hes).set
    · rw [List.getElem?_set_ne e] at h2
      exact (x.rows i' r' es' h1 h2).other fun z => e (nd_ix x.nd hr (by rw [← z]; exact h1))
  dat := x.dat.set ((x.dat.2 i es row hes hrow).set hv j) i
/-- it is changed no more -/
theorem MaO.frz (x : MaO H F1 H1 m rs ess M) (g : Gr mu F H F1 H1) : ∃ F2, Gr mu F H F2 H1 ∧ Same F1 F2 ∧ Is F2 (.ref m) M ∧ (∀ c, c ≠ m → c ∉ rs → F2 c = F1 c) ∧ ∀ c, c = m ∨ c ∈ rs → F2 c = H1 c := by
  have own : ∀ c, (c = m ∨ c ∈ rs) → H c = none ∧ F1 c = none ∧ ∃ o, H1 c = some o := fun c h => by
    rcases h with rfl | h
    · exact ⟨x.ow.n, x.ow.f, _, x.ow.h⟩
    · obtain ⟨es, w⟩ := x.row h
      exact ⟨w.n, w.f, _, w.h⟩
  have s : Same F1 (fun c => if c = m ∨ c ∈ rs then H1 c else F1 c) := fun c o h => by
    by_cases e : c = m ∨ c ∈ rs
    · rw [(own c e).2.1] at h; cases h
    · simp only [e, if_false]; exact h
  refine ⟨fun c => if c = m ∨ c ∈ rs then H1 c else F1 c, ⟨fun c o h => s c o (g.ff c o h), fun c o h => ?_, fun c o h => ?_, g.fr, g.th⟩, s, ⟨m, rs.map V.ref, rfl, ?_, by rw [List.length_map, x.len]; exact x.dat.1, fun i v row h1 h2 => ?_⟩, fun c h1 h2 => if_neg fun z => z.elim h1 h2, fun c h => if_pos h⟩
  · by_cases e : c = m ∨ c ∈ rs
    · simp only [e, if_true] at h; exact h
    · simp only [e, if_false] at h; exact g.fh c o h
  · by_cases e : c = m ∨ c ∈ rs
    · exact .inr (own c e).1
    · simp only [e, if_false] at h; exact g.nw c o h
  · show (if m = m ∨ m ∈ rs then H1 m else F1 m) = _
    rw [if_pos (.inl rfl)]; exact x.ow.h
  · rw [List.getElem?_map] at h1
    cases hr : rs[i]? with
    | none => rw [hr] at h1; cases h1
    | some r =>
      rw [hr] at h1
      cases h1
      obtain ⟨es, hes, hd⟩ := x.dat.get h2
      refine ⟨r, es, rfl, ?_, hd.up s⟩
      show (if r = m ∨ r ∈ rs then H1 r else F1 r) = _
      rw [if_pos (.inr (List.mem_of_getElem? hr))]
      exact (x.rows i r es hr hes).h
theorem MaO.at (x : MaO H F1 H1 m rs ess M) {i : Nat} {row : List Ent} (h : M[i]? = some row) : ∃ r es, rs[i]? = some r ∧ ess[i]? = some es ∧ Ow H F1 H1 r (.lst es) ∧ IsAll F1 es row := by
  obtain ⟨es, hes, al⟩ := x.dat.get h
  have l : i < rs.length := by rw [x.len]; exact (List.getElem?_eq_some_iff.mp hes).1
  exact ⟨_, es, List.getElem?_eq_getElem l, hes, x.rows i _ es (List.getElem?_eq_getElem l) hes, al⟩
end
theorem ixN_of {n : Nat} {k : Int} (h0 : 0 ≤ k) (h1 : k < n) : ixN n k = some k.toNat := by
  unfold ixN
  rw [if_pos h0, if_pos h1]
theorem Gr.pf {mu : Addr → Prop} {F H F1 H1 : Hp} {p : Addr} {o : HO} (g : Gr mu F H F1 H1) (f : F p = none) (h : H p = some o) : F1 p = none := by
  cases e : F1 p with
  | none => rfl
  | some z =>
    rcases g.nw p z e with k | k
    · rw [f] at k; cases k
    · rw [h] at k; cases k
/-- a draw: the purse alone is another one -/
theorem Gr.drw {F H F1 H1 : Hp} {p : Addr} {o : HO} {a b : Int} (g : Gr (muP p) F H F1 H1) (f : F p = none) (h : H p = some o) : Gr (muP p) F H F1 (upd H1 p (PurseO a b)) ∧ Gr (muP p) F1 H1 F1 (upd H1 p (PurseO a b)) :=
  ⟨g.set (g.pf f h) (.inr rfl), (Gr.refl g.fh).set (g.pf f h) (.inr rfl)⟩
theorem MOk.set {M : Mach} {R S i j : Nat} {row : List Ent} {e : Ent} (h : MOk M R S) (hr : M[i]? = some row) (he : EOk R S e) : MOk (M.set i (row.set j e)) R S := by
  have mr := List.mem_of_getElem? hr
  refine ⟨h.r1, h.r4, h.s2, h.s4, by rw [List.length_set]; exact h.len, fun r z => ?_, fun r z e' z' => ?_⟩
  · rcases List.mem_or_eq_of_mem_set z with z | rfl
    · exact h.row r z
    · rw [List.length_set]; exact h.row row mr
  · rcases List.mem_or_eq_of_mem_set z with z | rfl
    · exact h.ent r z e' z'
    · rcases List.mem_or_eq_of_mem_set z' with z' | rfl
      · exact h.ent row mr e' z'
      · exact he
def sp_L_machine : Sp := fun vs H Q _ => ∃ (F : Hp) (p : Addr) (a b : Int), vs = [.ref p] ∧ Same F H ∧ F p = none ∧ H p = some (PurseO a b) ∧ 0 ≤ a ∧ 0 ≤ b ∧
  ∀ (F' H' : Hp) (m : Addr) (rs : List Addr) (ess : List (List V)) (M : Mach) (R S : Nat) (a' b' : Int), Gr (muP p) F H F' H' → H' p = some (PurseO a' b') → 0 ≤ a' → 0 ≤ b' → MOk M R S → MaO H F' H' m rs ess M → Q (.ref m) H'
theorem ok_L_machine (t : Tx K mg) : FnOk P w K mg base CX0 2 t.a_L_machine t.fd_L_machine ["_law_purse_here"] sp_L_machine := by
  refine t.F_L_machine.ok sc_L_machine (fun vs H Q E h => ?_) (fun cdv A outer s H vs Q E hr h => ?_)
  · obtain ⟨F, p, a, b, rfl, _⟩ := h
    rfl
  · obtain ⟨F, p, a, b, rfl, sF, fp, hp, ha, hb, q⟩ := h
    refine ⟨_, (pss_cons (ps_set (i := 1) sc_L_machine.nd rfl (by first | exact Or.inl rfl | exact Or.inr rfl) (pe_op op_add pe_int (pe_call (ok_L_draw t) (hr.mono (by decide)) (by rfl) t.m_L_draw t.F_L_draw.kp t.b_L_draw .nil pass0 (pa_cons (pv 0) (pa_cons pe_int pa_nil)))))
      (pss_cons (ps_set (i := 2) sc_L_machine.nd rfl (by first | exact Or.inl rfl | exact Or.inr rfl) (pe_op op_add pe_int (pe_call (ok_L_draw t) (hr.mono (by decide)) (by rfl) t.m_L_draw t.F_L_draw.kp t.b_L_draw .nil pass0 (pa_cons (pv 0) (pa_cons pe_int pa_nil)))))
      (pss_cons (ps_set (i := 3) sc_L_machine.nd rfl (by first | exact Or.inl rfl | exact Or.inr rfl) (pe_call (ok_L_draw t) (hr.mono (by decide)) (by rfl) t.m_L_draw t.F_L_draw.kp t.b_L_draw .nil pass0 (pa_cons (pv 0) (pa_cons pe_int pa_nil))))
      (pss_cons (ps_set (i := 4) sc_L_machine.nd rfl (by first | exact Or.inl rfl | exact Or.inr rfl) (pe_lst pa_nil))
      (pss_cons (ps_for PassesOwn.never rfl (pi_range1 (by rfl) t.n_range (pa_cons (pv 1) pa_nil)) (pg_name (i := 5) sc_L_machine.nd rfl (by first | exact Or.inl rfl | exact Or.inr rfl)) (pss_cons (ps_set (i := 6) sc_L_machine.nd rfl (by first | exact Or.inl rfl | exact Or.inr rfl) (pe_lst pa_nil))
      (pss_cons (ps_for PassesOwn.never rfl (pi_range1 (by rfl) t.n_range (pa_cons (pv 2) pa_nil)) (pg_name (i := 7) sc_L_machine.nd rfl (by first | exact Or.inl rfl | exact Or.inr rfl)) (pss_cons (ps_set (i := 8) sc_L_machine.nd rfl (by first | exact Or.inl rfl | exact Or.inr rfl) (pe_tup (pa_cons (pe_call (ok_L_draw t) (hr.mono (by decide)) (by rfl) t.m_L_draw t.F_L_draw.kp t.b_L_draw .nil pass0 (pa_cons (pv 0) (pa_cons (pv 2) pa_nil))) (pa_cons (pe_op op_sub (pe_op op_mul pe_int (pe_call (ok_L_draw t) (hr.mono (by decide)) (by rfl) t.m_L_draw t.F_L_draw.kp t.b_L_draw .nil pass0 (pa_cons (pv 0) (pa_cons pe_int pa_nil)))) pe_int) (pa_cons (pe_call (ok_L_draw t) (hr.mono (by decide)) (by rfl) t.m_L_draw t.F_L_draw.kp t.b_L_draw .nil pass0 (pa_cons (pv 0) (pa_cons (pv 1) pa_nil))) pa_nil)))))
      (pss_cons (ps_if (PW.pt (pw_and (pt_cmpR op_gt (pv 3) pe_int (nomark _)) (pw_and1 (pt_cmpR op_eq (pe_call (ok_L_draw t) (hr.mono (by decide)) (by rfl) t.m_L_draw t.F_L_draw.kp t.b_L_draw .nil pass0 (pa_cons (pv 0) (pa_cons (pe_op op_add pe_int (pe_op op_mul pe_int (pv 3))) pa_nil))) pe_int (nomark _))))) (pss_one (ps_set (i := 8) sc_L_machine.nd rfl (by first | exact Or.inl rfl | exact Or.inr rfl) (pe_tup pa_nil))) pss_nil)
      (pss_one (ps_expr (pe_bm PySem.F.plainAttrs_list PySem.F.slot_list_append PySem.F.type_list_append mt_append (pv 6) (pa_cons (pv 8) pa_nil)))))))
      (pss_one (ps_expr (pe_bm PySem.F.plainAttrs_list PySem.F.slot_list_append PySem.F.type_list_append mt_append (pv 4) (pa_cons (pv 6) pa_nil)))))))
      (pss_cons (ps_if (pt_cmpR op_eq (pv 3) pe_int (nomark _)) (pss_one (ps_asg (pe_tup pa_nil) (pg_sub (pe_ix ix_list (pv 4) (pe_call (ok_L_draw t) (hr.mono (by decide)) (by rfl) t.m_L_draw t.F_L_draw.kp t.b_L_draw .nil pass0 (pa_cons (pv 0) (pa_cons (pv 1) pa_nil))) (fun _ _ => rfl)) (pe_call (ok_L_draw t) (hr.mono (by decide)) (by rfl) t.m_L_draw t.F_L_draw.kp t.b_L_draw .nil pass0 (pa_cons (pv 0) (pa_cons (pv 2) pa_nil))) set_list))) pss_nil)
      (pss_one (ps_ret (pv 4))))))))), ?_⟩
    have g0 : Gr (muP p) F H F H := Gr.refl sF
    -- rows, signs, kind
    refine ⟨_, rfl, p, a, b, 4, rfl, hp, ha, hb, by decide, by decide, fun d1 a1 b1 d10 d11 ha1 hb1 => ⟨_, _, rfl, rfl, ?_⟩⟩
    have g1 := g0.set (o := PurseO a1 b1) fp (.inr rfl)
    refine ⟨_, rfl, p, a1, b1, 3, rfl, upd_same, ha1, hb1, by decide, by decide, fun d2 a2 b2 d20 d21 ha2 hb2 => ⟨_, _, rfl, rfl, ?_⟩⟩
    have g2 := g1.set (o := PurseO a2 b2) fp (.inr rfl)
    refine ⟨_, rfl, p, a2, b2, 4, rfl, upd_same, ha2, hb2, by decide, by decide, fun d3 a3 b3 d30 d31 ha3 hb3 => ?_⟩
    have g3 := g2.set (o := PurseO a3 b3) fp (.inr rfl)
    generalize eH3 : upd (upd (upd H p (PurseO a1 b1)) p (PurseO a2 b2)) p (PurseO a3 b3) = H3 at g3
    have hp3 : H3 p = some (PurseO a3 b3) := by rw [← eH3]; exact upd_same
    have eR : ((1 + d1).toNat : Int) = 1 + d1 := Int.toNat_of_nonneg (by omega)
    have eS : ((2 + d2).toNat : Int) = 2 + d2 := Int.toNat_of_nonneg (by omega)
    generalize hR : (1 + d1).toNat = R at eR
    generalize hS : (2 + d2).toNat = S at eS
    dsimp only
    rw [← eR, ← eS]
    have R4 : R ≤ 4 := by omega
    have R1 : 1 ≤ R := by omega
    have S4 : S ≤ 4 := by omega
    have S2 : 2 ≤ S := by omega
    -- found = []
    refine ⟨nil_le, fun D nD => ?_⟩
    have x0 : MaO H F (upd H3 D (.lst [])) D [] [] [] := ⟨Ow.mk1 g3 nD, List.nodup_nil, (fun z => nomatch z), rfl, fun i r es h _ => (by cases h), All2.nil⟩
    have g4 := g3.own (o := .lst []) nD
    refine ⟨_, rfl, (R : Int), rfl, by omega, by omega, for_range (lo := 0) (n := ((R : Int)).toNat) (fun i σ G => ∃ (F1 : Hp) (rs : List Addr) (ess : List (List V)) (M : Mach) (a b : Int) (v5 v6 v7 v8 : Option V), σ = [some (.ref p), some (.int R), some (.int S), some (.int d3), some (.ref D), v5, v6, v7, v8] ∧
      Gr (muP p) F H F1 G ∧ G p = some (PurseO a b) ∧ 0 ≤ a ∧ 0 ≤ b ∧ MaO H F1 G D rs ess M ∧ M.length = i ∧ ∀ row ∈ M, row.length = S ∧ ∀ e ∈ row, EOk R S e) ⟨F, [], [], [], a3, b3, none, none, none, none, rfl, g4, ?_, ha3, hb3, x0, rfl, fun row z => nomatch z⟩ ?_ ?_⟩
    · rw [upd_ne (ne_of_none hp3 nD)]; exact hp3
    · rintro i σ G hi ⟨F1, rs, ess, M, a, b, v5, v6, v7, v8, rfl, g, hpG, ha, hb, x, hl, hM⟩
      -- row = []
      refine ⟨nil_le, fun r nr => ?_⟩
      have gr := g.own (o := .lst []) nr
      have wr : Ow H F1 (upd G r (.lst [])) r (.lst []) := Ow.mk1 g nr
      have xr := x.gr ((Gr.refl (mu := mu0) g.fh).own (o := .lst []) nr) fun c z => z.elim
      have offr := x.offn nr
      have hpr : (upd G r (.lst [])) p = some (PurseO a b) := by rw [upd_ne (ne_of_none hpG nr)]; exact hpG
      refine ⟨_, rfl, (S : Int), rfl, by omega, by omega, for_range (lo := 0) (n := ((S : Int)).toNat) (fun j σ G => ∃ (F1 : Hp) (es : List V) (row : List Ent) (a b : Int) (v7 v8 : Option V), σ = [some (.ref p), some (.int R), some (.int S), some (.int d3), some (.ref D), some (.int (0 + i)), some (.ref r), v7, v8] ∧
        Gr (muP p) F H F1 G ∧ G p = some (PurseO a b) ∧ 0 ≤ a ∧ 0 ≤ b ∧ MaO H F1 G D rs ess M ∧ Ow H F1 G r (.lst es) ∧ IsAll F1 es row ∧ row.length = j ∧ ∀ e ∈ row, EOk R S e) ⟨F1, [], [], a, b, v7, v8, rfl, gr, hpr, ha, hb, xr, wr, All2.nil, rfl, fun e z => nomatch z⟩ ?_ ?_⟩
      · rintro j σ G hj ⟨F1, es, row, a, b, v7, v8, rfl, g, hpG, ha, hb, x, w, al, hl, hrow⟩
        have wp : r ≠ p := fun z => by rw [z] at w; rw [w.n] at hp; cases hp
        have wD : r ≠ D := offr.1
        -- the entry
        refine ⟨_, rfl, _, rfl, p, a, b, (S : Int), rfl, hpG, ha, hb, by omega, by omega, fun e1 a1 b1 e10 e11 ha1 hb1 => ?_⟩
        obtain ⟨g1, k1⟩ := g.drw (a := a1) (b := b1) fp hp
        refine ⟨_, rfl, p, a1, b1, 2, rfl, upd_same, ha1, hb1, by decide, by decide, fun e2 a2 b2 e20 e21 ha2 hb2 => ⟨_, _, rfl, rfl, .inl ⟨by decide, by decide⟩, _, _, rfl, rfl, ?_⟩⟩
        obtain ⟨g2, k2⟩ := g1.drw (a := a2) (b := b2) fp hp
        refine ⟨_, rfl, _, rfl, p, a2, b2, (R : Int), rfl, upd_same, ha2, hb2, by omega, by omega, fun e3 a3 b3 e30 e31 ha3 hb3 => ⟨three_le, fun q0 nq => ?_⟩⟩
        obtain ⟨g3, k3⟩ := g2.drw (a := a3) (b := b3) fp hp
        have k := (k1.trans k2).trans k3
        have x3 := x.gr k (x.off hp)
        have w3 := w.call k wp
        have hp3 : (upd (upd (upd G p (PurseO a1 b1)) p (PurseO a2 b2)) p (PurseO a3 b3)) p = some (PurseO a3 b3) := upd_same
        generalize upd (upd (upd G p (PurseO a1 b1)) p (PurseO a2 b2)) p (PurseO a3 b3) = G3 at g3 k x3 w3 hp3 nq
        have g4 := g3.new (o := .tup [.int e1, .int (2 * e2 - 1), .int e3]) nq
        have k4 := (Gr.refl (mu := mu0) g3.fh).new (o := .tup [.int e1, .int (2 * e2 - 1), .int e3]) nq
        have x4 := x3.gr k4 fun c z => z.elim
        have w4 := w3.call k4 fun z => z
        have hp4 := k4.fr _ _ hp3 fun z => z
        have ee : Is (upd F1 q0 (.tup [.int e1, .int (2 * e2 - 1), .int e3])) (.ref q0) (Ent.go e1 (2 * e2 - 1) e3) := ⟨q0, rfl, upd_same⟩
        have eo : EOk R S (Ent.go e1 (2 * e2 - 1) e3) := ⟨fun p w r z => by cases z; exact ⟨⟨e10, e11⟩, by omega, e30, e31⟩⟩
        have al4 := al.up k4.ff
        generalize upd F1 q0 (.tup [.int e1, .int (2 * e2 - 1), .int e3]) = F4 at g4 k4 x4 w4 ee al4
        generalize upd G3 q0 (.tup [.int e1, .int (2 * e2 - 1), .int e3]) = G4 at g4 k4 x4 w4 hp4
        -- what is the same in both ways: the entry comes in
        have fin : ∀ (F5 G5 : Hp) (q5 : Addr) (e5 : Ent) (a5 b5 : Int), Gr (muP p) F H F5 G5 → G5 p = some (PurseO a5 b5) → 0 ≤ a5 → 0 ≤ b5 → MaO H F5 G5 D rs ess M → Ow H F5 G5 r (.lst es) → IsAll F5 es row → Is F5 (.ref q5) e5 → EOk R S e5 →
            ∃ (F1 : Hp) (es1 : List V) (row : List Ent) (a b : Int) (v7 v8 : Option V), [some (.ref p), some (.int R), some (.int S), some (.int d3), some (.ref D), some (.int (0 + i)), some (.ref r), some (.int (0 + j)), some (.ref q5)] = [some (.ref p), some (.int R), some (.int S), some (.int d3), some (.ref D), some (.int (0 + i)), some (.ref r), v7, v8] ∧
              Gr (muP p) F H F1 (upd G5 r (.lst (es ++ [.ref q5]))) ∧ (upd G5 r (.lst (es ++ [.ref q5]))) p = some (PurseO a b) ∧ 0 ≤ a ∧ 0 ≤ b ∧ MaO H F1 (upd G5 r (.lst (es ++ [.ref q5]))) D rs ess M ∧ Ow H F1 (upd G5 r (.lst (es ++ [.ref q5]))) r (.lst es1) ∧ IsAll F1 es1 row ∧ row.length = j + 1 ∧ ∀ e ∈ row, EOk R S e := by
          intro F5 G5 q5 e5 a5 b5 g5 hp5 ha5 hb5 x5 w5 al5 ie5 eo5
          refine ⟨F5, es ++ [.ref q5], row ++ [e5], a5, b5, _, _, rfl, g5.set w5.f (.inl w5.n), by rw [upd_ne (Ne.symm wp)]; exact hp5, ha5, hb5, x5.gr (mu := fun c => c = r) ((Gr.refl g5.fh).set w5.f (.inr rfl)) (fun c z => by rw [show c = r from z]; exact offr), w5.set, al5.app (All2.one ie5), by rw [List.length_append, hl]; rfl, fun e z => ?_⟩
          rcases List.mem_append.mp z with z | z
          · exact hrow e z
          · rw [List.mem_singleton.mp z]; exact eo5
        have ll : ∀ G5 F5 : Hp, IsAll F5 es row → es.length < sizeLine := fun _ _ z => by rw [z.1, hl]; exact lt_size (by omega)
        refine ⟨_, rfl, _, _, rfl, rfl, _, rfl, ?_⟩
        refine ite2 (fun c => ?_) (fun c => ?_)
        · refine ⟨_, rfl, _, rfl, _, _, rfl, rfl, .inl ⟨by decide, by decide⟩, _, _, rfl, rfl, p, a3, b3, _, rfl, hp4, ha3, hb3, by omega, by omega, fun e4 a4 b4 e40 e41 ha4 hb4 => ⟨rfl, _, rfl, ?_⟩⟩
          obtain ⟨g5, k5⟩ := g4.drw (a := a4) (b := b4) fp hp
          have x5 := x4.gr k5 (x4.off hp)
          have w5 := w4.call k5 wp
          have al5 := al4.up k5.ff
          have hp5 : (upd G4 p (PurseO a4 b4)) p = some (PurseO a4 b4) := upd_same
          generalize upd G4 p (PurseO a4 b4) = G5 at g5 k5 x5 w5 hp5
          refine ite2 (fun c => ?_) (fun c => ?_)
          · refine ⟨nil_le, fun q2 nq2 => ?_⟩
            have g6 := g5.new (o := .tup []) nq2
            have k6 := (Gr.refl (mu := mu0) g5.fh).new (o := .tup []) nq2
            have x6 := x5.gr k6 fun c z => z.elim
            have w6 := w5.call k6 fun z => z
            refine ⟨_, rfl, .inl ⟨rfl, _, SqL.of w6.h⟩, _, rfl, r, _, _, rfl, rfl, w6.h, ll G5 _ al5, ?_⟩
            exact fin _ _ q2 .emp a4 b4 g6 (k6.fr _ _ hp5 fun z => z) ha4 hb4 x6 w6 (al5.up k6.ff) ⟨q2, rfl, upd_same⟩ ⟨fun p w r z => by cases z⟩
          · refine ⟨_, rfl, .inl ⟨rfl, _, SqL.of w5.h⟩, _, rfl, r, _, _, rfl, rfl, w5.h, ll G5 _ al5, ?_⟩
            exact fin _ _ q0 _ a4 b4 g5 hp5 ha4 hb4 x5 w5 al5 (ee.up k5.ff) eo
        · refine ifF rfl ?_
          refine ⟨_, rfl, .inl ⟨rfl, _, SqL.of w4.h⟩, _, rfl, r, _, _, rfl, rfl, w4.h, ll G4 _ al4, ?_⟩
          exact fin _ _ q0 _ a3 b3 g4 hp4 ha3 hb3 x4 w4 al4 ee eo
      · rintro σ G ⟨F1, es, row, a, b, v7, v8, rfl, g, hpG, ha, hb, x, w, al, hl2, hrow⟩
        have hl2 : row.length = S := by rw [hl2]; exact Int.toNat_natCast S
        refine ⟨_, rfl, .inl ⟨rfl, _, SqL.of x.ow.h⟩, _, rfl, D, _, _, rfl, rfl, x.ow.h, by rw [List.length_map, x.len, x.dat.1, hl]; exact lt_size (by omega), ?_⟩
        have e1 : rs.map V.ref ++ [V.ref r] = (rs ++ [r]).map V.ref := by rw [List.map_append]; rfl
        rw [e1]
        have pD : p ≠ D := fun z => by rw [z] at hp; rw [x.ow.n] at hp; cases hp
        refine ⟨F1, rs ++ [r], ess ++ [es], M ++ [row], a, b, _, _, _, _, rfl, g.set x.ow.f (.inl x.ow.n), by rw [upd_ne pD]; exact hpG, ha, hb, x.add w offr al, by rw [List.length_append, hl]; rfl, fun row' z => ?_⟩
        rcases List.mem_append.mp z with z | z
        · exact hM row' z
        · rw [List.mem_singleton.mp z]; exact ⟨hl2, hrow⟩
    · rintro σ G ⟨F1, rs, ess, M, a, b, v5, v6, v7, v8, rfl, g, hpG, ha, hb, x, hl, hM⟩
      have hl : M.length = R := by rw [hl]; exact Int.toNat_natCast R
      have mok : ∀ M' : Mach, M'.length = R → (∀ row ∈ M', row.length = S ∧ ∀ e ∈ row, EOk R S e) → MOk M' R S := fun M' h1 h2 => ⟨R1, R4, S2, S4, h1, fun r z => (h2 r z).1, fun r z => (h2 r z).2⟩
      refine ⟨_, rfl, rfl, _, rfl, ?_⟩
      refine ite2 (fun c => ?_) (fun c => ?_)
      · refine ⟨nil_le, fun q2 nq2 => ?_⟩
        have g6 := g.new (o := .tup []) nq2
        have k6 := (Gr.refl (mu := mu0) g.fh).new (o := .tup []) nq2
        have x6 := x.gr k6 fun c z => z.elim
        have hp6 := k6.fr _ _ hpG fun z => z
        have i6 : Is (upd F1 q2 (.tup [])) (.ref q2) Ent.emp := ⟨q2, rfl, upd_same⟩
        generalize upd F1 q2 (.tup []) = F6 at g6 k6 x6 i6
        generalize upd G q2 (.tup []) = G6 at g6 k6 x6 hp6
        refine ⟨_, rfl, _, rfl, _, rfl, p, a, b, (R : Int), rfl, hp6, ha, hb, by omega, by omega, fun i1 a1 b1 i10 i11 ha1 hb1 => ?_⟩
        obtain ⟨g7, k7⟩ := g6.drw (a := a1) (b := b1) fp hp
        have x7 := x6.gr k7 (x6.off hp)
        have hi : i1.toNat < rs.length := by rw [x.len, x.dat.1, hl]; omega
        have hrs : rs[i1.toNat]? = some rs[i1.toNat] := List.getElem?_eq_getElem hi
        have hes : ess[i1.toNat]? = some (ess[i1.toNat]'(by rw [← x.len]; exact hi)) := List.getElem?_eq_getElem _
        obtain ⟨row, hrow, al⟩ := x7.dat.get' hes
        have w7 := x7.rows _ _ _ hrs hes
        refine ⟨D, _, i1, _, rfl, rfl, SqL.of x7.ow.h, at_of (Int.toNat_of_nonneg i10).symm (by rw [List.getElem?_map, hrs]; rfl), ?_⟩
        refine ⟨_, rfl, _, rfl, p, a1, b1, (S : Int), rfl, upd_same, ha1, hb1, by omega, by omega, fun i2 a2 b2 i20 i21 ha2 hb2 => ?_⟩
        obtain ⟨g8, k8⟩ := g7.drw (a := a2) (b := b2) fp hp
        have x8 := x7.gr k8 (x7.off hp)
        have w8 := x8.rows _ _ _ hrs hes
        have ml : row ∈ M := List.mem_of_getElem? hrow
        have lr := (hM row ml).1
        refine ⟨_, _, i2, i2.toNat, rfl, rfl, w8.h, ixN_of i20 (by rw [al.1, lr]; exact i21), ?_⟩
        have hp8 : (upd (upd G6 p (PurseO a1 b1)) p (PurseO a2 b2)) p = some (PurseO a2 b2) := upd_same
        generalize upd (upd G6 p (PurseO a1 b1)) p (PurseO a2 b2) = G8 at g8 k8 x8 w8 hp8
        have pr : p ≠ rs[i1.toNat] := fun z => by rw [z] at hp; rw [w8.n] at hp; cases hp
        refine ⟨_, rfl, ?_⟩
        refine q F6 _ D rs _ _ R S a2 b2 (g8.set w8.f (.inl w8.n)) (by rw [upd_ne pr]; exact hp8) ha2 hb2 (mok _ (by rw [List.length_set]; exact hl) fun row' z => ?_) (x8.put (j := i2.toNat) hrs hes hrow i6)
        rcases List.mem_or_eq_of_mem_set z with z | rfl
        · exact hM row' z
        · refine ⟨by rw [List.length_set]; exact lr, fun e z => ?_⟩
          rcases List.mem_or_eq_of_mem_set z with z | rfl
          · exact (hM row ml).2 e z
          · exact ⟨fun p w r z => by cases z⟩
      · exact ⟨_, rfl, q F1 G D rs ess M R S a b g hpG ha hb (mok M hl hM) x⟩
/-! ### small things -/
theorem ln {H : Hp} {p q : Addr} {o u : HO} (n : H q = none) (h : H p = some o) : upd H q u p = some o := (upd_ne (ne_of_none h n)).trans h
theorem Gr.frzS {mu : Addr → Prop} {F H F1 H1 : Hp} (g : Gr mu F H F1 H1) (P : Addr → Prop) [DecidablePred P] (h : ∀ c, P c → H c = none ∧ F1 c = none) : Gr mu F H (fun c => if P c then H1 c else F1 c) H1 ∧ Same F1 (fun c => if P c then H1 c else F1 c) := by
  have s : Same F1 (fun c => if P c then H1 c else F1 c) := fun c o e => by
    by_cases p : P c
    · rw [(h c p).2] at e; cases e
    · simp only [p, if_false]; exact e
  refine ⟨⟨fun c o e => s c o (g.ff c o e), fun c o e => ?_, fun c o e => ?_, g.fr, g.th⟩, s⟩
  · by_cases p : P c
    · simp only [p, if_true] at e; exact e
    · simp only [p, if_false] at e; exact g.fh c o e
  · by_cases p : P c
    · exact .inr (h c p).1
    · simp only [p, if_false] at e; exact g.nw c o e
/-! ### what a machine does -/
structure Cfg where
  r : Int
  s : Int
  l : List PI
def entOf (M : Mach) (c : Cfg) : Ent := ((M[c.r.toNat]?.getD [])[((look c.l c.s).getD 0).toNat]?).getD .emp
def stepC (M : Mach) (c : Cfg) : Option Cfg := match entOf M c with
  | .emp => none
  | .go p w r => some ⟨r, c.s + w, put c.l c.s p⟩
structure CfOk (R S : Nat) (c : Cfg) : Prop where
  r0 : 0 ≤ c.r
  r1 : c.r < R
  nd : Nd c.l
  sg : ∀ q ∈ c.l, 0 ≤ q.b ∧ q.b < S
theorem CfOk.look {R S : Nat} {c : Cfg} (h : CfOk R S c) (s1 : 1 ≤ S) (x : Int) : 0 ≤ (look c.l x).getD 0 ∧ (look c.l x).getD 0 < S := by
  cases e : E.look c.l x with
  | none => simp only [Option.getD_none]; omega
  | some v => exact h.sg _ (mem_look e)
theorem CfOk.ent {M : Mach} {R S : Nat} {c : Cfg} (hM : MOk M R S) (h : CfOk R S c) : ∃ row, M[c.r.toNat]? = some row ∧ 0 ≤ (E.look c.l c.s).getD 0 ∧ row[((E.look c.l c.s).getD 0).toNat]? = some (entOf M c) ∧ EOk R S (entOf M c) := by
  have hr : c.r.toNat < M.length := by have := h.r0; have := h.r1; have := hM.len; omega
  have h1 : M[c.r.toNat]? = some M[c.r.toNat] := List.getElem?_eq_getElem hr
  have m1 := List.mem_of_getElem? h1
  obtain ⟨s0, s1⟩ := h.look (by have := hM.s2; omega) c.s
  have hs : ((E.look c.l c.s).getD 0).toNat < M[c.r.toNat].length := by rw [hM.row _ m1]; omega
  have h2 : M[c.r.toNat][((E.look c.l c.s).getD 0).toNat]? = some _ := List.getElem?_eq_getElem hs
  have e : entOf M c = M[c.r.toNat][((E.look c.l c.s).getD 0).toNat] := by
    unfold entOf
    rw [h1, Option.getD_some, h2, Option.getD_some]
  exact ⟨_, h1, s0, by rw [e]; exact h2, by rw [e]; exact hM.ent _ m1 _ (List.mem_of_getElem? h2)⟩
theorem CfOk.step {M : Mach} {R S : Nat} {c c' : Cfg} (hM : MOk M R S) (h : CfOk R S c) (e : stepC M c = some c') : CfOk R S c' := by
  obtain ⟨row, _, _, _, eo⟩ := h.ent hM
  unfold stepC at e
  split at e
  · cases e
  · rename_i p w r he
    cases e
    obtain ⟨o1, _, o3, o4⟩ := eo.ok _ _ _ he
    refine ⟨o3, o4, nd_put h.nd _ _, fun q m => ?_⟩
    rcases mem_put m with m | rfl
    · exact h.sg q m
    · exact o1
/-- a setup with its signs in a dict -/
def cfAt (H : Hp) (v : V) (c : Cfg) : Prop := ∃ t d, v = .ref t ∧ H t = some (.tup [.int c.r, .int c.s, .ref d]) ∧ H d = some (.dK (dI c.l))
theorem cfAt.up {H H' : Hp} {v : V} {c : Cfg} (h : cfAt H v c) (s : Same H H') : cfAt H' v c := by
  obtain ⟨t, d, e, h1, h2⟩ := h
  exact ⟨t, d, e, s _ _ h1, s _ _ h2⟩
theorem stepC_none {M : Mach} {c : Cfg} : stepC M c = none ↔ entOf M c = .emp := by
  unfold stepC
  cases entOf M c with
  | emp => exact ⟨fun _ => rfl, fun _ => rfl⟩
  | go p w r => exact ⟨(fun h => nomatch h), (fun h => nomatch h)⟩
theorem stepC_go {M : Mach} {c : Cfg} {p w r : Int} (h : entOf M c = .go p w r) : stepC M c = some ⟨r, c.s + w, put c.l c.s p⟩ := by
  unfold stepC
  rw [h]
theorem getD_int (o : Option Int) (x : Int) : (o.map V.int).getD (.int x) = .int (o.getD x) := by cases o <;> rfl
theorem size_dI {l : List PI} {n : Nat} (h : l.length ≤ n) (k : n ≤ 1000000) : (dI l).length < sizeLine := by
  unfold dI; rw [List.length_map]; exact lt_size (by omega)
/-! ### runs from the empty strip -/
def c0 : Cfg := ⟨0, 0, []⟩
def stepsC (M : Mach) : Nat → Option Cfg
  | 0 => some c0
  | k + 1 => (stepsC M k).bind (stepC M)
theorem stepsC_next {M : Mach} {k : Nat} {c : Cfg} (h : stepsC M k = some c) : stepsC M (k + 1) = stepC M c := by
  show (stepsC M k).bind (stepC M) = _
  rw [h]; rfl
theorem stepsC_back {M : Mach} {k : Nat} {c : Cfg} (h : stepsC M (k + 1) = some c) : ∃ b, stepsC M k = some b ∧ stepC M b = some c := Option.bind_eq_some_iff.mp h
theorem stepsC_end {M : Mach} {k : Nat} {c : Cfg} (h : stepsC M k = some c) (e : stepC M c = none) : ∀ j, stepsC M (k + 1 + j) = none
  | 0 => by rw [Nat.add_zero, stepsC_next h]; exact e
  | j + 1 => by
    show (stepsC M (k + 1 + j)).bind (stepC M) = _
    rw [stepsC_end h e j]; rfl
theorem c0_ok {R S : Nat} (r1 : 1 ≤ R) : CfOk R S c0 := ⟨Int.le_refl _, by show (0 : Int) < R; omega, nd_nil, fun z m => nomatch m⟩
theorem stepC_len {M : Mach} {c c' : Cfg} (e : stepC M c = some c') : c'.l.length ≤ c.l.length + 1 := by
  unfold stepC at e
  split at e
  · cases e
  · cases e
    exact put_len _ _ _
theorem stepsC_ok {M : Mach} {R S : Nat} (hM : MOk M R S) : ∀ {k : Nat} {c : Cfg}, stepsC M k = some c → CfOk R S c ∧ c.l.length ≤ k
  | 0, c, h => by
    cases h
    exact ⟨c0_ok hM.r1, Nat.le_refl _⟩
  | k + 1, c, h => by
    obtain ⟨b, hb, e⟩ := stepsC_back h
    obtain ⟨i1, i2⟩ := stepsC_ok hM hb
    have := stepC_len e
    exact ⟨i1.step hM e, by omega⟩
/-- where a run of at most n steps stands: behind k of them, at c -/
structure Gone (M : Mach) (n k : Nat) (c : Cfg) : Prop where
  le : k ≤ n
  stp : stepsC M k = some c
  fin : stepC M c = none ∨ k = n
theorem Gone.lt {M : Mach} {n k k' : Nat} {c c' : Cfg} (a : Gone M n k c) (b : Gone M n k' c') : ¬ k < k' := fun l => by
  rcases a.fin with e | e
  · have h := stepsC_end a.stp e (k' - (k + 1))
    rw [show k + 1 + (k' - (k + 1)) = k' by omega, b.stp] at h
    cases h
  · have := b.le; omega
theorem Gone.uniq {M : Mach} {n k k' : Nat} {c c' : Cfg} (a : Gone M n k c) (b : Gone M n k' c') : k = k' ∧ c = c' := by
  have e : k = k' := by have := a.lt b; have := b.lt a; omega
  subst e
  have h := a.stp
  rw [b.stp] at h
  cases h
  exact ⟨rfl, rfl⟩
/-! ### a strip without noughts -/
def pop (l : List PI) (x : Int) : List PI := l.filter fun p => decide (p.a ≠ x)
theorem look_pop (x y : Int) : ∀ l : List PI, look (pop l x) y = if y = x then none else look l y
  | [] => by show look [] y = _; rw [look_nil]; split <;> rfl
  | p :: l => by
    have ih := look_pop x y l
    unfold pop at ih ⊢
    rw [List.filter_cons, look_cons]
    by_cases e : p.a = x
    · rw [if_neg (by simp [e]), ih]
      by_cases f : y = x
      · rw [if_pos f, if_pos f]
      · rw [if_neg f, if_neg f, if_neg (by rw [e]; exact fun z => f z.symm)]
    · rw [if_pos (by simp [e]), look_cons, ih]
      by_cases f : p.a = y
      · rw [if_pos f, if_pos f, if_neg (by rw [← f]; exact e)]
      · rw [if_neg f, if_neg f]
theorem nd_pop {l : List PI} (h : Nd l) (x : Int) : Nd (pop l x) := List.Sublist.nodup (List.Sublist.map _ List.filter_sublist) h
theorem nd_nodup {l : List PI} (h : Nd l) : l.Nodup := (List.pairwise_map.mp h).imp fun z e => z (by rw [e])
structure ZRel (l l' : List PI) : Prop where
  n : Nd l
  n' : Nd l'
  z : ∀ q ∈ l', q.b ≠ 0
  lk : ∀ x, (look l x).getD 0 = (look l' x).getD 0
theorem ZRel.nil : ZRel [] [] := ⟨nd_nil, nd_nil, fun q m => (nomatch m), fun x => rfl⟩
theorem ZRel.put {l l' : List PI} (h : ZRel l l') (x : Int) {v : Int} (e : v ≠ 0) : ZRel (put l x v) (put l' x v) := by
  refine ⟨nd_put h.n _ _, nd_put h.n' _ _, fun q m => ?_, fun y => ?_⟩
  · rcases mem_put m with m | rfl
    · exact h.z q m
    · exact e
  · rw [look_put, look_put]
    split
    · rfl
    · exact h.lk y
theorem ZRel.pop {l l' : List PI} (h : ZRel l l') (x : Int) : ZRel (E.put l x 0) (pop (E.put l' x 0) x) := by
  refine ⟨nd_put h.n _ _, nd_pop (nd_put h.n' _ _) _, fun q m => ?_, fun y => ?_⟩
  · obtain ⟨m, e⟩ := List.mem_filter.mp m
    have e : q.a ≠ x := of_decide_eq_true e
    rcases mem_put m with m | rfl
    · exact h.z q m
    · exact absurd rfl e
  · rw [look_put, look_pop, look_put]
    split
    · rfl
    · exact h.lk y
theorem ZRel.perm {l l' : List PI} (h : ZRel l l') : (l.filter nz).Perm l' := by
  refine (List.perm_ext_iff_of_nodup (List.Sublist.nodup List.filter_sublist (nd_nodup h.n)) (nd_nodup h.n')).mpr fun q => ?_
  have k := h.lk q.a
  rw [List.mem_filter]
  constructor
  · rintro ⟨m, e⟩
    have e : q.b ≠ 0 := of_decide_eq_true e
    rw [look_mem h.n m, Option.getD_some] at k
    cases f : look l' q.a with
    | none => rw [f] at k; exact absurd k e
    | some z =>
      rw [f, Option.getD_some] at k
      have m' := mem_look f
      rw [← k] at m'
      exact m'
  · intro m
    have e := h.z q m
    rw [look_mem h.n' m, Option.getD_some] at k
    cases f : look l q.a with
    | none => rw [f] at k; exact absurd k.symm e
    | some z =>
      rw [f, Option.getD_some] at k
      have m' := mem_look f
      rw [k] at m'
      exact ⟨m', decide_eq_true e⟩
theorem ZRel.told {l l' : List PI} (h : ZRel l l') : told l = srt l' :=
  srt_uniq (srt_srt _) (srt_srt _) (((srt_perm _).trans h.perm).trans (srt_perm _).symm)
theorem ZRel.len {l l' : List PI} (h : ZRel l l') : l'.length ≤ l.length := by
  rw [← h.perm.length_eq]; exact List.length_filter_le _ _
/-- a setup with its signs other than 0 in a dict -/
def zAt (H : Hp) (v : V) (c : Cfg) : Prop := ∃ t d l', v = .ref t ∧ H t = some (.tup [.int c.r, .int c.s, .ref d]) ∧ H d = some (.dK (dI l')) ∧ ZRel c.l l'
theorem zAt.up {H H' : Hp} {v : V} {c : Cfg} (h : zAt H v c) (s : Same H H') : zAt H' v c := by
  obtain ⟨t, d, l', e, h1, h2, h3⟩ := h
  exact ⟨t, d, l', e, s _ _ h1, s _ _ h2, h3⟩
/-- the setups behind 0, 1, .. k steps -/
def ZAll (H : Hp) (M : Mach) (xs : List V) (k : Nat) : Prop := xs.length = k + 1 ∧ ∀ i v, xs[i]? = some v → ∃ c, stepsC M i = some c ∧ zAt H v c
theorem ZAll.up {H H' : Hp} {M : Mach} {xs : List V} {k : Nat} (h : ZAll H M xs k) (s : Same H H') : ZAll H' M xs k :=
  ⟨h.1, fun i v e => by obtain ⟨c, a, b⟩ := h.2 i v e; exact ⟨c, a, b.up s⟩⟩
theorem ZAll.one {H : Hp} {M : Mach} {v : V} (h : zAt H v c0) : ZAll H M [v] 0 := ⟨rfl, fun i u e => by
  cases i with
  | zero => cases e; exact ⟨c0, rfl, h⟩
  | succ n => cases e⟩
theorem ZAll.app {H : Hp} {M : Mach} {xs : List V} {k : Nat} {v : V} {c : Cfg} (h : ZAll H M xs k) (e : stepsC M (k + 1) = some c) (z : zAt H v c) : ZAll H M (xs ++ [v]) (k + 1) := by
  refine ⟨by rw [List.length_append, h.1]; rfl, fun i u hu => ?_⟩
  by_cases l : i < xs.length
  · rw [List.getElem?_append_left l] at hu
    exact h.2 i u hu
  · rw [List.getElem?_append_right (by omega)] at hu
    cases j : i - xs.length with
    | zero =>
      rw [j] at hu
      cases hu
      have := h.1
      rw [show i = k + 1 by omega]
      exact ⟨c, e, z⟩
    | succ n => rw [j] at hu; cases hu
theorem ZAll.get {H : Hp} {M : Mach} {xs : List V} {k i : Nat} {c : Cfg} (h : ZAll H M xs k) (l : i ≤ k) (e : stepsC M i = some c) : ∃ v, xs[i]? = some v ∧ zAt H v c := by
  have l' : i < xs.length := by rw [h.1]; omega
  obtain ⟨c', e', z⟩ := h.2 i _ (List.getElem?_eq_getElem l')
  rw [e] at e'
  cases e'
  exact ⟨_, List.getElem?_eq_getElem l', z⟩
/-! ### words -/
/-- a text that may stand in a datum -/
structure TStr where
  x : Str
  ok : PyData.strOk x = true
  deriving DecidableEq
instance : Dat TStr where
  rep := fun _ v d => v = .str d.x
  mono := fun _ h => h
  py := fun d => .str d.x
  dp := fun h => h ▸ .str _
  can := fun d => d.ok
  dep := 0
  depth := fun _ => Nat.le_refl _
  eqv := fun a b => by
    obtain ⟨a, _⟩ := a; obtain ⟨b, _⟩ := b
    simp [PyData.eqv]
/-- what is due of a run -/
abbrev Res := T3 TStr Int Setup
def tEnds : TStr := ⟨"ends", by decide +kernel⟩
def tOn : TStr := ⟨"on", by decide +kernel⟩
def dueOf (M : Mach) (n k : Nat) (c : Cfg) : Res := if entOf M c = Ent.emp then ⟨tEnds, k, c.r, c.s, told c.l⟩ else ⟨tOn, n, c.r, c.s, told c.l⟩
def sp_gone (C : Addr) : Sp := fun vs H Q _ => ∃ (F : Hp) (m : V) (M : Mach) (R S n : Nat), vs = [m, .int n] ∧ Same F H ∧ Is F m M ∧ MOk M R S ∧ n ≤ 5000 ∧
  ∀ (F' H' : Hp) (u g d : Addr) (k : Nat) (c : Cfg), Gr mu0 F H F' H' → F' u = some (.tup [.ref g, .bl (decide (entOf M c = Ent.emp))]) → H g = none → H d = none → F' g = none → F' d = none → GoAt C H' g d m c.r c.s c.l k → Gone M n k c → Q (.ref u) H'
theorem ok_gone (t : Tx K mg) : FnOk P w K mg base CX0 3 t.a_gone t.fd_gone ["machine", "most"] (sp_gone t.C_Goer) := by
  refine t.F_gone.ok sc_gone (fun vs H Q E h => ?_) (fun cdv A outer s H vs Q E hr h => ?_)
  · obtain ⟨F, m, M, R, S, n, rfl, _⟩ := h
    rfl
  · obtain ⟨F, m, M, R, S, n, rfl, sF, hm, hM, hn, q⟩ := h
    refine ⟨_, (pss_cons (ps_set (i := 2) sc_gone.nd rfl (by first | exact Or.inl rfl | exact Or.inr rfl) (pe_make t.M_Goer (ok_Goer_init t) (hr.mono (by decide)) (by rfl) t.m_Goer t.b_Goer_init .nil pass0 (pa_cons (pv 0) (pa_cons (pe_tup (pa_cons pe_int (pa_cons pe_int (pa_cons (pe_lst pa_nil) pa_nil)))) pa_nil))))
      (pss_cons (ps_set (i := 3) sc_gone.nd rfl (by first | exact Or.inl rfl | exact Or.inr rfl) pe_bl)
      (pss_cons (ps_while PassesOwn.never (PW.pt (pw_and (pt_val (pv 3)) (pw_and1 (pt_cmpR op_lt (pe_fld (pv 2) rfl) (pv 1) (nomark _))))) (pss_one (ps_set (i := 3) sc_gone.nd rfl (by first | exact Or.inl rfl | exact Or.inr rfl) (pe_meth0 (pv 2) t.cl_Goer t.M_Goer_step (ok_Goer_step t) (hr.mono (by decide)) t.b_Goer_step .nil pass0))))
      (pss_one (ps_ret (pe_tup (pa_cons (pv 2) (pa_cons (pe_cmpR (op_eqD hr.units) (pe_meth0 (pv 2) t.cl_Goer t.M_Goer_entry (ok_Goer_entry t) (hr.mono (by decide)) t.b_Goer_entry .nil pass0) (pe_tup pa_nil) (nomark _)) pa_nil)))))))), ?_⟩
    have g0 : Gr mu0 F H F H := Gr.refl sF
    -- walk = Goer(machine, (0, 0, []))
    refine ⟨_, rfl, nil_le, fun l nl => ⟨three_le, fun u nu => ?_⟩⟩
    have g1 := g0.new (o := .lst []) nl
    have g2 := g1.new (o := .tup [.int 0, .int 0, .ref l]) nu
    have hx : Is (upd (upd F l (.lst [])) u (.tup [.int 0, .int 0, .ref l])) (.ref u) (⟨0, 0, []⟩ : Setup) := ⟨u, _, _, _, rfl, upd_same, rfl, rfl, l, [], rfl, ln (g1.fh.free nu) upd_same, All2.nil⟩
    generalize upd (upd F l (.lst [])) u (.tup [.int 0, .int 0, .ref l]) = F2 at g2 hx
    generalize upd (upd H l (.lst [])) u (.tup [.int 0, .int 0, .ref l]) = H2 at g2
    refine fun y dy ny ndy ney => ?_
    have g3 := g2.own (o := .own y) ndy
    have ny2 : (upd H2 dy (.own y)) y = none := by rw [upd_ne ney.symm]; exact ny
    have g4 := g3.own (o := .ins t.C_Goer dy []) ny2
    have hy : H y = none := g2.th _ ny
    have fy : F2 y = none := g2.fh.free ny
    refine ⟨F2, y, dy, m, .ref u, _, rfl, upd_same, fy, g4.fh, hx, fun d H5 nd5 g5 ga => ⟨rfl, ?_⟩⟩
    have g6 := g4.thn g5 fun c z => .inr (by rw [show c = y from z]; exact hy)
    have hd : H d = none := g4.th _ nd5
    have fd : F2 d = none := g4.fh.free nd5
    have hm2 := hm.up g2.ff
    -- going = True; while going and walk.steps < most
    refine ⟨fun k σ G => ∃ (F1 : Hp) (j : Nat) (c : Cfg) (b : Bool), k = 2 * (n - j) + b.toNat ∧ σ = [some m, some (.int n), some (.ref y), some (.bl b)] ∧ Gr mu0 F H F1 G ∧ F1 y = none ∧ F1 d = none ∧ Same F2 F1 ∧ GoAt t.C_Goer G y d m c.r c.s c.l j ∧ stepsC M j = some c ∧ j ≤ n ∧ (b = false → stepC M c = none),
      ⟨_, F2, 0, c0, true, rfl, rfl, g6, fy, fd, Same.refl _, ga, rfl, Nat.zero_le _, (fun z => nomatch z)⟩, ?_⟩
    rintro k σ G ⟨F1, j, c, b, rfl, rfl, g, fy, fd, s2, ga, st, lj, hb⟩
    obtain ⟨ok, ll⟩ := stepsC_ok hM st
    have hm1 := hm2.up s2
    obtain ⟨row, er, s0, ee, eo⟩ := ok.ent hM
    have gy := g.th
    have fin : ∀ G1, Gr mu0 F H F1 G1 → GoAt t.C_Goer G1 y d m c.r c.s c.l j → (stepC M c = none ∨ j = n) → ∀ p, G1 p = none → ∀ u, (upd G1 p (.tup [])) u = none → Q (.ref u) (upd (upd G1 p (.tup [])) u (.tup [.ref y, .bl (decide (entOf M c = Ent.emp))])) := by
      intro G1 g1 ga1 hend p np u nu
      have g2 := g1.own (o := .tup []) np
      have g3 := g2.new (o := .tup [.ref y, .bl (decide (entOf M c = Ent.emp))]) nu
      obtain ⟨⟨dx, ho⟩, hdc⟩ := id ga1
      have yu : y ≠ u := fun z => by rw [← z, upd_ne (ne_of_none ho np), ho] at nu; cases nu
      have du : d ≠ u := fun z => by rw [← z, upd_ne (ne_of_none hdc np), hdc] at nu; cases nu
      refine q _ _ u y d j c g3 upd_same hy hd (by rw [upd_ne yu]; exact fy) (by rw [upd_ne du]; exact fd) ⟨⟨dx, ln nu (ln np ho)⟩, ln nu (ln np hdc)⟩ ⟨lj, st, hend⟩
    obtain ⟨⟨dx, ho⟩, hdc⟩ := id ga
    refine ⟨_, rfl, _, rfl, ?_⟩
    refine ite2 (fun cb => ?_) (fun cb => ?_)
    · refine ⟨_, rfl, y, t.C_Goer, dx, _, _, rfl, ho, t.cl_Goer, t.nA_Goer_steps, Goer_get_steps, _, rfl, _, _, rfl, rfl, _, rfl, ?_⟩
      refine ite2 (fun cl => ?_) (fun cl => ?_)
      · have cl : (j : Int) < n := of_decide_eq_true cl
        refine ⟨_, fun _ _ h => h, ?_⟩
        refine ⟨_, rfl, y, dx, _, rfl, ho, Goer_no (by decide +kernel) (by decide +kernel) (by decide +kernel) (by decide +kernel) (by decide +kernel), F1, y, d, m, M, c.r, c.s, c.l, j, row, entOf M c, rfl, g.fh, fy, fd, hm1, ga, ok.r0, er, s0, ee, by omega, fun he H6 g6 => ?_, fun p w r' he H6 g6 gb => ?_⟩
        · exact ⟨2 * (n - j), by rw [cb]; show _ < 2 * (n - j) + 1; omega, F1, j, c, false, rfl, rfl, g.trans g6, fy, fd, s2, ga.gr g6 (fun z => z) (fun z => z), st, lj, fun _ => stepC_none.mpr he⟩
        · have st1 := stepC_go he
          exact ⟨2 * (n - (j + 1)) + 1, by rw [cb]; show _ < 2 * (n - j) + 1; omega, F1, j + 1, ⟨r', c.s + w, put c.l c.s p⟩, true, rfl, rfl, g.thn g6 (fun c z => .inr (by rcases z with rfl | rfl <;> assumption)), fy, fd, s2, gb, (stepsC_next st).trans st1, by omega, fun z => nomatch z⟩
      · have cl : ¬ (j : Int) < n := fun z => cl (decide_eq_true z)
        refine ⟨_, rfl, _, rfl, y, dx, _, rfl, ho, Goer_no (by decide +kernel) (by decide +kernel) (by decide +kernel) (by decide +kernel) (by decide +kernel), F1, y, d, m, M, c.r, c.s, c.l, j, row, entOf M c, rfl, g.fh, hm1, ga, ok.r0, er, s0, ee, fun v hv => ⟨nil_le, fun p np => ?_⟩⟩
        refine eq_dat (a := entOf M c) (b := Ent.emp) (hv.up (g.own np).fh) ⟨p, rfl, upd_same⟩ ⟨two_le, fun u nu => ?_⟩
        exact fin G g ga (.inr (by omega)) p np u nu
    · refine ifF rfl ?_
      have cb : b = false := by cases b with | false => rfl | true => exact absurd rfl cb
      refine ⟨_, rfl, _, rfl, y, dx, _, rfl, ho, Goer_no (by decide +kernel) (by decide +kernel) (by decide +kernel) (by decide +kernel) (by decide +kernel), F1, y, d, m, M, c.r, c.s, c.l, j, row, entOf M c, rfl, g.fh, hm1, ga, ok.r0, er, s0, ee, fun v hv => ⟨nil_le, fun p np => ?_⟩⟩
      refine eq_dat (a := entOf M c) (b := Ent.emp) (hv.up (g.own np).fh) ⟨p, rfl, upd_same⟩ ⟨two_le, fun u nu => ?_⟩
      exact fin G g ga (.inl (hb cb)) p np u nu
def sp_run : Sp := fun vs H Q _ => ∃ (F : Hp) (m : V) (M : Mach) (R S n : Nat), vs = [m, .int n] ∧ Same F H ∧ Is F m M ∧ MOk M R S ∧ n ≤ 5000 ∧
  ∀ (F' H' : Hp) (l u v : Addr) (xs : List V) (k : Nat) (c : Cfg), Gr mu0 F H F' H' → Gone M n k c → Ow H F' H' l (.lst xs) → IsAll F' xs (told c.l) → Ow H F' H' u (.tup [.int c.r, .int c.s, .ref l]) → Ow H F' H' v (.tup [.str (dueOf M n k c).a.x, .int (dueOf M n k c).b, .ref u]) → Q (.ref v) H'
theorem ok_run (t : Tx K mg) : FnOk P w K mg base CX0 4 t.a_run t.fd_run ["machine", "most"] sp_run := by
  refine t.F_run.ok sc_run (fun vs H Q E h => ?_) (fun cdv A outer s H vs Q E hr h => ?_)
  · obtain ⟨F, m, M, R, S, n, rfl, _⟩ := h
    rfl
  · obtain ⟨F, m, M, R, S, n, rfl, sF, hm, hM, hn, q⟩ := h
    refine ⟨_, (pss_cons (ps_expr (pe_call (ok_must_machine t) (hr.mono (by decide)) (by rfl) t.m_must_machine t.F_must_machine.kp t.b_must_machine .nil pass0 (pa_cons (pv 0) pa_nil)))
      (pss_cons (ps_asg (pe_call (ok_gone t) (hr.mono (by decide)) (by rfl) t.m_gone t.F_gone.kp t.b_gone .nil pass0 (pa_cons (pv 0) (pa_cons (pv 1) pa_nil))) (pg_tup rfl (pgs_cons (pg_name (i := 2) sc_run.nd rfl (by first | exact Or.inl rfl | exact Or.inr rfl)) (pgs_cons (pg_name (i := 3) sc_run.nd rfl (by first | exact Or.inl rfl | exact Or.inr rfl)) pgs_nil))))
      (pss_cons (ps_if (pt_val (pv 3)) (pss_one (ps_ret (pe_tup (pa_cons pe_str (pa_cons (pe_fld (pv 2) rfl) (pa_cons (pe_meth0 (pv 2) t.cl_Goer t.M_Goer_setup (ok_Goer_setup t) (hr.mono (by decide)) t.b_Goer_setup .nil pass0) pa_nil)))))) pss_nil)
      (pss_one (ps_ret (pe_tup (pa_cons pe_str (pa_cons (pv 1) (pa_cons (pe_meth0 (pv 2) t.cl_Goer t.M_Goer_setup (ok_Goer_setup t) (hr.mono (by decide)) t.b_Goer_setup .nil pass0) pa_nil))))))))), ?_⟩
    refine ⟨_, rfl, F, m, M, R, S, rfl, sF, hm, hM, fun H1 g1 => ?_⟩
    refine ⟨_, rfl, _, rfl, F, m, M, R, S, n, rfl, g1.fh, hm, hM, hn, fun F2 H2 w g d k c g2 hw ng nd fg fd ga go => ?_⟩
    have g12 := g1.trans g2
    refine ⟨w, _, rfl, SqT.of (g2.fh _ _ hw), rfl, _, _, rfl, _, _, rfl, rfl, ?_⟩
    obtain ⟨ok, ll⟩ := stepsC_ok hM go.stp
    have gle := go.le
    obtain ⟨⟨dx, ho⟩, hdc⟩ := id ga
    have key : ∀ (x : Str) (i : Int), (dueOf M n k c).a.x = x → (dueOf M n k c).b = i → ∀ (F' H' : Hp) (p u : Addr) (xs : List V), Gr mu0 F2 H2 F' H' → Ow H2 F' H' p (.lst xs) → IsAll F' xs (told c.l) → Ow H2 F' H' u (.tup [.int c.r, .int c.s, .ref p]) → ∀ v, H' v = none → Q (.ref v) (upd H' v (.tup [.str x, .int i, .ref u])) := by
      intro x i ex ei F' H' p u xs g3 w1 al w2 v nv
      have g13 := g12.trans g3
      refine q F' _ p u v xs k c (g13.own nv) go ⟨g12.th _ w1.n, w1.f, ln nv w1.h⟩ al ⟨g12.th _ w2.n, w2.f, ln nv w2.h⟩ ?_
      rw [ex, ei]
      exact Ow.mk1 g13 nv
    by_cases e : entOf M c = Ent.emp
    · refine ⟨_, rfl, _, rfl, ifT (decide_eq_true e) ?_⟩
      refine ⟨_, rfl, g, t.C_Goer, dx, _, _, rfl, ho, t.cl_Goer, t.nA_Goer_steps, Goer_get_steps, _, rfl, g, dx, _, rfl, ho, Goer_no (by decide +kernel) (by decide +kernel) (by decide +kernel) (by decide +kernel) (by decide +kernel), F2, g, d, m, c.r, c.s, c.l, k, rfl, g2.fh, ga, by omega, fun F' H' p u xs g3 w1 al w2 => ⟨three_le, fun v nv => ?_⟩⟩
      exact key tEnds.x k (by unfold dueOf; rw [if_pos e]) (by unfold dueOf; rw [if_pos e]) F' H' p u xs g3 w1 al w2 v nv
    · refine ⟨_, rfl, _, rfl, ifF (decide_eq_false e) ?_⟩
      refine ⟨_, rfl, _, rfl, g, dx, _, rfl, ho, Goer_no (by decide +kernel) (by decide +kernel) (by decide +kernel) (by decide +kernel) (by decide +kernel), F2, g, d, m, c.r, c.s, c.l, k, rfl, g2.fh, ga, by omega, fun F' H' p u xs g3 w1 al w2 => ⟨three_le, fun v nv => ?_⟩⟩
      exact key tOn.x n (by unfold dueOf; rw [if_neg e]) (by unfold dueOf; rw [if_neg e]) F' H' p u xs g3 w1 al w2 v nv
/-! ### machines that are led along -/
theorem MaO.slot {H F1 H1 : Hp} {m : Addr} {rs : List Addr} {ess : List (List V)} {M : Mach} {R S i : Nat} (x : MaO H F1 H1 m rs ess M) (hM : MOk M R S) (hi : i < R) : ∃ r es row, rs[i]? = some r ∧ ess[i]? = some es ∧ M[i]? = some row ∧ Ow H F1 H1 r (.lst es) ∧ es.length = S ∧ (rs.map V.ref)[i]? = some (.ref r) := by
  have h : M[i]? = some _ := List.getElem?_eq_getElem (by rw [hM.len]; exact hi)
  obtain ⟨r, es, h1, h2, w, al⟩ := x.at h
  exact ⟨r, es, _, h1, h2, h, w, al.1.trans (hM.row _ (List.mem_of_getElem? h)), by rw [List.getElem?_map, h1]; rfl⟩
def sp_L_led : Sp := sp_L_machine
theorem ok_L_led (t : Tx K mg) : FnOk P w K mg base CX0 2 t.a_L_led t.fd_L_led ["_law_purse_here"] sp_L_led := by
  refine t.F_L_led.ok sc_L_led (fun vs H Q E h => ?_) (fun cdv A outer s H vs Q E hr h => ?_)
  · obtain ⟨F, p, a, b, rfl, _⟩ := h
    rfl
  · obtain ⟨F, p, a, b, rfl, sF, fp, hp, ha, hb, q⟩ := h
    refine ⟨_, (pss_cons (ps_set (i := 1) sc_L_led.nd rfl (by first | exact Or.inl rfl | exact Or.inr rfl) (pe_op op_add pe_int (pe_call (ok_L_draw t) (hr.mono (by decide)) (by rfl) t.m_L_draw t.F_L_draw.kp t.b_L_draw .nil pass0 (pa_cons (pv 0) (pa_cons pe_int pa_nil)))))
      (pss_cons (ps_set (i := 2) sc_L_led.nd rfl (by first | exact Or.inl rfl | exact Or.inr rfl) (pe_op op_sub (pe_op op_mul pe_int (pe_call (ok_L_draw t) (hr.mono (by decide)) (by rfl) t.m_L_draw t.F_L_draw.kp t.b_L_draw .nil pass0 (pa_cons (pv 0) (pa_cons pe_int pa_nil)))) pe_int))
      (pss_cons (ps_set (i := 3) sc_L_led.nd rfl (by first | exact Or.inl rfl | exact Or.inr rfl) (pe_op op_add pe_int (pe_call (ok_L_draw t) (hr.mono (by decide)) (by rfl) t.m_L_draw t.F_L_draw.kp t.b_L_draw .nil pass0 (pa_cons (pv 0) (pa_cons pe_int pa_nil)))))
      (pss_cons (ps_set (i := 4) sc_L_led.nd rfl (by first | exact Or.inl rfl | exact Or.inr rfl) pe_int)
      (pss_cons (ps_set (i := 5) sc_L_led.nd rfl (by first | exact Or.inl rfl | exact Or.inr rfl) (pe_lst pa_nil))
      (pss_cons (ps_for PassesOwn.never rfl (pi_range1 (by rfl) t.n_range (pa_cons (pv 4) pa_nil)) (pg_name (i := 6) sc_L_led.nd rfl (by first | exact Or.inl rfl | exact Or.inr rfl)) (pss_cons (ps_setLc (i := 7) (own := [("_law_j", 8)]) (g := gName 8) (tt := tYes) rfl sc_L_led.nd rfl rfl (sw_true rfl rfl rfl (by decide +kernel)) (pi_range1 (by rfl) t.n_range (pa_cons (pv 1) pa_nil)) (blkOk_by (N := N_L_led) (sc := defScope s_L_led) (by decide +kernel)) (fun _ _ _ _ _ => (pg_name (i := 8) sc_L_led.nd rfl (by first | exact Or.inl rfl | exact Or.inr rfl))) (fun _ _ _ _ _ => pts_nil) (fun _ _ _ _ _ => (pe_tup (pa_cons (pe_call (ok_L_draw t) (hr.mono (by decide)) (by rfl) t.m_L_draw t.F_L_draw.kp t.b_L_draw .nil pass0 (pa_cons (pv 0) (pa_cons (pv 1) pa_nil))) (pa_cons (pe_op op_sub (pe_op op_mul pe_int (pe_call (ok_L_draw t) (hr.mono (by decide)) (by rfl) t.m_L_draw t.F_L_draw.kp t.b_L_draw .nil pass0 (pa_cons (pv 0) (pa_cons pe_int pa_nil)))) pe_int) (pa_cons (pe_call (ok_L_draw t) (hr.mono (by decide)) (by rfl) t.m_L_draw t.F_L_draw.kp t.b_L_draw .nil pass0 (pa_cons (pv 0) (pa_cons (pv 4) pa_nil))) pa_nil))))))
      (pss_cons (ps_asg (pe_tup (pa_cons (pe_call (ok_L_draw t) (hr.mono (by decide)) (by rfl) t.m_L_draw t.F_L_draw.kp t.b_L_draw .nil pass0 (pa_cons (pv 0) (pa_cons (pv 1) pa_nil))) (pa_cons (pv 2) (pa_cons (pe_op op_mod (pe_op op_add (pv 6) pe_int) (pe_op op_add (pv 3) pe_int)) pa_nil)))) (pg_sub (pv 7) pe_int set_list))
      (pss_one (ps_expr (pe_bm PySem.F.plainAttrs_list PySem.F.slot_list_append PySem.F.type_list_append mt_append (pv 5) (pa_cons (pv 7) pa_nil)))))))
      (pss_cons (ps_if (pt_cmpR op_eq (pe_call (ok_L_draw t) (hr.mono (by decide)) (by rfl) t.m_L_draw t.F_L_draw.kp t.b_L_draw .nil pass0 (pa_cons (pv 0) (pa_cons pe_int pa_nil))) pe_int (nomark _)) (pss_cons (ps_asg (pe_tup (pa_cons (pe_op op_add pe_int (pe_call (ok_L_draw t) (hr.mono (by decide)) (by rfl) t.m_L_draw t.F_L_draw.kp t.b_L_draw .nil pass0 (pa_cons (pv 0) (pa_cons (pe_op op_sub (pv 1) pe_int) pa_nil)))) (pa_cons (pv 2) (pa_cons pe_int pa_nil)))) (pg_sub (pe_ix ix_list (pv 5) pe_int (fun _ _ => rfl)) pe_int set_list))
      (pss_one (ps_asg (pe_tup (pa_cons (pe_call (ok_L_draw t) (hr.mono (by decide)) (by rfl) t.m_L_draw t.F_L_draw.kp t.b_L_draw .nil pass0 (pa_cons (pv 0) (pa_cons (pv 1) pa_nil))) (pa_cons (pe_op op_sub pe_int (pv 2)) (pa_cons (pe_call (ok_L_draw t) (hr.mono (by decide)) (by rfl) t.m_L_draw t.F_L_draw.kp t.b_L_draw .nil pass0 (pa_cons (pv 0) (pa_cons pe_int pa_nil))) pa_nil)))) (pg_sub (pe_ix ix_list (pv 5) pe_int (fun _ _ => rfl)) pe_int set_list)))) pss_nil)
      (pss_one (ps_ret (pv 5)))))))))), ?_⟩
    have g0 : Gr (muP p) F H F H := Gr.refl sF
    -- signs, way, long, rows
    refine ⟨_, rfl, p, a, b, 3, rfl, hp, ha, hb, by decide, by decide, fun d1 a1 b1 d10 d11 ha1 hb1 => ⟨_, _, rfl, rfl, ?_⟩⟩
    have g1 := g0.set (o := PurseO a1 b1) fp (.inr rfl)
    refine ⟨_, rfl, p, a1, b1, 2, rfl, upd_same, ha1, hb1, by decide, by decide, fun d2 a2 b2 d20 d21 ha2 hb2 => ⟨_, _, rfl, rfl, .inl ⟨by decide, by decide⟩, _, _, rfl, rfl, ?_⟩⟩
    have g2 := g1.set (o := PurseO a2 b2) fp (.inr rfl)
    refine ⟨_, rfl, p, a2, b2, 3, rfl, upd_same, ha2, hb2, by decide, by decide, fun d3 a3 b3 d30 d31 ha3 hb3 => ⟨_, _, rfl, rfl, ?_⟩⟩
    have g3 := g2.set (o := PurseO a3 b3) fp (.inr rfl)
    have hp3 : (upd (upd (upd H p (PurseO a1 b1)) p (PurseO a2 b2)) p (PurseO a3 b3)) p = some (PurseO a3 b3) := upd_same
    generalize upd (upd (upd H p (PurseO a1 b1)) p (PurseO a2 b2)) p (PurseO a3 b3) = H3 at g3 hp3
    obtain ⟨S, eS⟩ : ∃ S : Nat, 2 + d1 = (S : Int) := Int.eq_ofNat_of_zero_le (by omega)
    have S4 : S ≤ 4 := by omega
    have S2 : 2 ≤ S := by omega
    obtain ⟨wy, ew⟩ : ∃ wy : Int, 2 * d2 - 1 = wy := ⟨_, rfl⟩
    have wok : wy = -1 ∨ wy = 1 := by omega
    dsimp only
    rw [eS, ew]
    -- found = []
    refine ⟨nil_le, fun D nD => ?_⟩
    have x0 : MaO H F (upd H3 D (.lst [])) D [] [] [] := ⟨Ow.mk1 g3 nD, List.nodup_nil, (fun z => nomatch z), rfl, fun i r es h _ => (by cases h), All2.nil⟩
    have g4 := g3.own (o := .lst []) nD
    have hp4 := ln (u := .lst []) nD hp3
    refine ⟨_, rfl, 4, rfl, by decide, by decide, for_range (lo := 0) (n := 4) (fun i σ G => ∃ (F1 : Hp) (rs : List Addr) (ess : List (List V)) (M : Mach) (a b : Int) (v6 v7 : Option V), σ = [some (.ref p), some (.int S), some (.int wy), some (.int (1 + d3)), some (.int 4), some (.ref D), v6, v7, none] ∧
      Gr (muP p) F H F1 G ∧ G p = some (PurseO a b) ∧ 0 ≤ a ∧ 0 ≤ b ∧ MaO H F1 G D rs ess M ∧ M.length = i ∧ ∀ row ∈ M, row.length = S ∧ ∀ e ∈ row, EOk 4 S e) ⟨F, [], [], [], a3, b3, none, none, rfl, g4, hp4, ha3, hb3, x0, rfl, fun row z => nomatch z⟩ ?_ ?_⟩
    · rintro i σ G hi ⟨F1, rs, ess, M, a, b, v6, v7, rfl, g, hpG, ha, hb, x, hl, hM⟩
      -- row = [.. for j in range(signs)]
      refine ⟨_, rfl, (S : Int), rfl, by omega, by omega, fun r nr => ?_⟩
      have gr := g.own (o := .lst []) nr
      have wr : Ow H F1 (upd G r (.lst [])) r (.lst []) := Ow.mk1 g nr
      have xr := x.gr ((Gr.refl (mu := mu0) g.fh).own (o := .lst []) nr) fun c z => z.elim
      have offr := x.offn nr
      have hpr := ln (u := .lst []) nr hpG
      refine lc_range (lo := 0) (n := ((S : Int)).toNat) (fun j G => ∃ (F1 : Hp) (es : List V) (row : List Ent) (a b : Int),
        Gr (muP p) F H F1 G ∧ G p = some (PurseO a b) ∧ 0 ≤ a ∧ 0 ≤ b ∧ MaO H F1 G D rs ess M ∧ Ow H F1 G r (.lst es) ∧ IsAll F1 es row ∧ row.length = j ∧ ∀ e ∈ row, EOk 4 S e) ⟨F1, [], [], a, b, gr, hpr, ha, hb, xr, wr, All2.nil, rfl, fun e z => nomatch z⟩ ?_ ?_
      · rintro j G hj ⟨F1, es, row, a, b, g, hpG, ha, hb, x, w, al, hl, hrow⟩
        have wp : r ≠ p := fun z => by rw [z] at w; rw [w.n] at hp; cases hp
        refine ⟨rfl, yes ?_⟩
        refine ⟨_, rfl, _, rfl, p, a, b, (S : Int), rfl, hpG, ha, hb, by omega, by omega, fun e1 a1 b1 e10 e11 ha1 hb1 => ?_⟩
        obtain ⟨g1, k1⟩ := g.drw (a := a1) (b := b1) fp hp
        refine ⟨_, rfl, p, a1, b1, 2, rfl, upd_same, ha1, hb1, by decide, by decide, fun e2 a2 b2 e20 e21 ha2 hb2 => ⟨_, _, rfl, rfl, .inl ⟨by decide, by decide⟩, _, _, rfl, rfl, ?_⟩⟩
        obtain ⟨g2, k2⟩ := g1.drw (a := a2) (b := b2) fp hp
        refine ⟨_, rfl, _, rfl, p, a2, b2, 4, rfl, upd_same, ha2, hb2, by decide, by decide, fun e3 a3 b3 e30 e31 ha3 hb3 => ⟨three_le, fun q0 nq => ?_⟩⟩
        obtain ⟨g3, k3⟩ := g2.drw (a := a3) (b := b3) fp hp
        have k := (k1.trans k2).trans k3
        have x3 := x.gr k (x.off hp)
        have w3 := w.call k wp
        have hp3 : (upd (upd (upd G p (PurseO a1 b1)) p (PurseO a2 b2)) p (PurseO a3 b3)) p = some (PurseO a3 b3) := upd_same
        generalize upd (upd (upd G p (PurseO a1 b1)) p (PurseO a2 b2)) p (PurseO a3 b3) = G3 at g3 k x3 w3 hp3 nq
        have g4 := g3.new (o := .tup [.int e1, .int (2 * e2 - 1), .int e3]) nq
        have k4 := (Gr.refl (mu := mu0) g3.fh).new (o := .tup [.int e1, .int (2 * e2 - 1), .int e3]) nq
        have x4 := x3.gr k4 fun c z => z.elim
        have w4 := w3.call k4 fun z => z
        have hp4 := k4.fr _ _ hp3 fun z => z
        have ee : Is (upd F1 q0 (.tup [.int e1, .int (2 * e2 - 1), .int e3])) (.ref q0) (Ent.go e1 (2 * e2 - 1) e3) := ⟨q0, rfl, upd_same⟩
        have eo : EOk 4 S (Ent.go e1 (2 * e2 - 1) e3) := ⟨fun p w r z => by cases z; exact ⟨⟨e10, e11⟩, by omega, e30, e31⟩⟩
        refine ⟨es, w4.h, by rw [al.1, hl]; exact lt_size (by omega), _, es ++ [.ref q0], row ++ [_], a3, b3, g4.set w4.f (.inl w4.n), by rw [upd_ne (Ne.symm wp)]; exact hp4, ha3, hb3, x4.gr (mu := fun c => c = r) ((Gr.refl g4.fh).set w4.f (.inr rfl)) (fun c z => by rw [show c = r from z]; exact offr), w4.set, (al.up k4.ff).app (All2.one ee), by rw [List.length_append, hl]; rfl, fun e z => ?_⟩
        rcases List.mem_append.mp z with z | z
        · exact hrow e z
        · rw [List.mem_singleton.mp z]; exact eo
      · rintro G ⟨F1, es, row, a, b, g, hpG, ha, hb, x, w, al, hl2, hrow⟩
        have hl2 : row.length = S := by rw [hl2]; exact Int.toNat_natCast S
        have wp : r ≠ p := fun z => by rw [z] at w; rw [w.n] at hp; cases hp
        -- row[0] = ..
        refine ⟨_, rfl, _, rfl, p, a, b, (S : Int), rfl, hpG, ha, hb, by omega, by omega, fun e1 a1 b1 e10 e11 ha1 hb1 => ?_⟩
        obtain ⟨g1, k1⟩ := g.drw (a := a1) (b := b1) fp hp
        have x1 := x.gr k1 (x.off hp)
        have w1 := w.call k1 wp
        have hp1 : (upd G p (PurseO a1 b1)) p = some (PurseO a1 b1) := upd_same
        generalize upd G p (PurseO a1 b1) = G1 at g1 k1 x1 w1 hp1
        refine ⟨_, rfl, _, rfl, _, _, rfl, rfl, _, rfl, _, _, rfl, rfl, _, _, rfl, rfl, by omega, three_le, fun q0 nq => ?_⟩
        have m0 := Int.emod_nonneg (0 + (i : Int) + 1) (b := 1 + d3 + 1) (by omega)
        have m1 := Int.emod_lt_of_pos (0 + (i : Int) + 1) (b := 1 + d3 + 1) (by omega)
        have g2 := g1.new (o := .tup [.int e1, .int wy, .int ((0 + (i : Int) + 1) % (1 + d3 + 1))]) nq
        have k2 := (Gr.refl (mu := mu0) g1.fh).new (o := .tup [.int e1, .int wy, .int ((0 + (i : Int) + 1) % (1 + d3 + 1))]) nq
        have x2 := x1.gr k2 fun c z => z.elim
        have w2 := w1.call k2 fun z => z
        have hp2 := k2.fr _ _ hp1 fun z => z
        have ee : Is (upd F1 q0 (.tup [.int e1, .int wy, .int ((0 + (i : Int) + 1) % (1 + d3 + 1))])) (.ref q0) (Ent.go e1 wy ((0 + (i : Int) + 1) % (1 + d3 + 1))) := ⟨q0, rfl, upd_same⟩
        have eo : EOk 4 S (Ent.go e1 wy ((0 + (i : Int) + 1) % (1 + d3 + 1))) := ⟨fun p w r z => by cases z; exact ⟨⟨e10, e11⟩, wok, m0, Int.lt_of_lt_of_le m1 (by omega)⟩⟩
        have al2 := al.up k2.ff
        generalize upd F1 q0 (.tup [.int e1, .int wy, .int ((0 + (i : Int) + 1) % (1 + d3 + 1))]) = F2 at g2 k2 x2 w2 ee al2
        generalize upd G1 q0 (.tup [.int e1, .int wy, .int ((0 + (i : Int) + 1) % (1 + d3 + 1))]) = G2 at g2 k2 x2 w2 hp2
        refine ⟨_, rfl, r, _, 0, 0, rfl, rfl, w2.h, ixN_of (Int.le_refl _) (by rw [al.1, hl2]; omega), ?_⟩
        have g3 := g2.set (o := .lst (es.set 0 (.ref q0))) w2.f (.inl w2.n)
        have x3 := x2.gr (mu := fun c => c = r) ((Gr.refl g2.fh).set (o := .lst (es.set 0 (.ref q0))) w2.f (.inr rfl)) (fun c z => by rw [show c = r from z]; exact offr)
        have w3 := w2.set (u := .lst (es.set 0 (.ref q0)))
        have hp3 := (upd_ne (o := .lst (es.set 0 (.ref q0))) (Ne.symm wp)).trans hp2
        have al3 := al2.set ee 0
        -- found.append(row)
        refine ⟨_, rfl, .inl ⟨rfl, _, SqL.of x3.ow.h⟩, _, rfl, D, _, _, rfl, rfl, x3.ow.h, by rw [List.length_map, x.len, x.dat.1, hl]; exact lt_size (by omega), ?_⟩
        have e1' : rs.map V.ref ++ [V.ref r] = (rs ++ [r]).map V.ref := by rw [List.map_append]; rfl
        rw [e1']
        have pD : p ≠ D := fun z => by rw [z] at hp; rw [x.ow.n] at hp; cases hp
        refine ⟨F2, rs ++ [r], ess ++ [_], M ++ [_], a1, b1, _, _, rfl, g3.set x3.ow.f (.inl x3.ow.n), by rw [upd_ne pD]; exact hp3, ha1, hb1, x3.add w3 offr al3, by rw [List.length_append, hl]; rfl, fun row' z => ?_⟩
        rcases List.mem_append.mp z with z | z
        · exact hM row' z
        · rw [List.mem_singleton.mp z]
          refine ⟨by rw [List.length_set]; exact hl2, fun e z => ?_⟩
          rcases List.mem_or_eq_of_mem_set z with z | rfl
          · exact hrow e z
          · exact eo
    · rintro σ G ⟨F1, rs, ess, M, a, b, v6, v7, rfl, g, hpG, ha, hb, x, hl, hM⟩
      have mok : MOk M 4 S := ⟨by decide, by decide, S2, S4, hl, fun r z => (hM r z).1, fun r z => (hM r z).2⟩
      -- if draw(3) == 0
      refine ⟨_, rfl, p, a, b, 3, rfl, hpG, ha, hb, by decide, by decide, fun c0 a1 b1 c00 c01 ha1 hb1 => ⟨rfl, _, rfl, ?_⟩⟩
      obtain ⟨g1, k1⟩ := g.drw (a := a1) (b := b1) fp hp
      have x1 := x.gr k1 (x.off hp)
      have hp1 : (upd G p (PurseO a1 b1)) p = some (PurseO a1 b1) := upd_same
      generalize upd G p (PurseO a1 b1) = G1 at g1 k1 x1 hp1
      refine ite2 (fun _ => ?_) (fun _ => ⟨_, rfl, q F1 G1 D rs ess M 4 S a1 b1 g1 hp1 ha1 hb1 mok x1⟩)
      -- found[0][0] = ..
      refine ⟨_, rfl, _, rfl, _, _, rfl, rfl, p, a1, b1, ((S : Int) - 1), rfl, hp1, ha1, hb1, by omega, by omega, fun e1 a2 b2 e10 e11 ha2 hb2 => ⟨_, _, rfl, rfl, _, rfl, three_le, fun q1 nq1 => ?_⟩⟩
      obtain ⟨g2, k2⟩ := g1.drw (a := a2) (b := b2) fp hp
      have x2 := x1.gr k2 (x1.off hp)
      have hp2 : (upd G1 p (PurseO a2 b2)) p = some (PurseO a2 b2) := upd_same
      generalize upd G1 p (PurseO a2 b2) = G2 at g2 k2 x2 hp2 nq1
      have g3 := g2.new (o := .tup [.int (1 + e1), .int wy, .int 1]) nq1
      have k3 := (Gr.refl (mu := mu0) g2.fh).new (o := .tup [.int (1 + e1), .int wy, .int 1]) nq1
      have x3 := x2.gr k3 fun c z => z.elim
      have hp3 := k3.fr _ _ hp2 fun z => z
      have ee : Is (upd F1 q1 (.tup [.int (1 + e1), .int wy, .int 1])) (.ref q1) (Ent.go (1 + e1) wy 1) := ⟨q1, rfl, upd_same⟩
      have eo : EOk 4 S (Ent.go (1 + e1) wy 1) := ⟨fun p w r z => by cases z; exact ⟨⟨by omega, by omega⟩, wok, by decide, by decide⟩⟩
      generalize upd F1 q1 (.tup [.int (1 + e1), .int wy, .int 1]) = F3 at g3 x3 ee
      generalize upd G2 q1 (.tup [.int (1 + e1), .int wy, .int 1]) = G3 at g3 x3 hp3
      obtain ⟨r0, es0, row0, hr0, he0, hw0, w0, l0, m0⟩ := x3.slot mok (i := 0) (by decide)
      refine ⟨_, rfl, D, _, _, _, rfl, rfl, SqL.of x3.ow.h, atI_nat (j := 0) m0, r0, _, 0, 0, rfl, rfl, w0.h, ixN_of (Int.le_refl _) (by omega), ?_⟩
      have pr0 : p ≠ r0 := fun z => by rw [z] at hp; rw [w0.n] at hp; cases hp
      have g4 := g3.set (o := .lst (es0.set 0 (.ref q1))) w0.f (.inl w0.n)
      have x4 := x3.put (j := 0) hr0 he0 hw0 ee
      have hp4 := (upd_ne (o := .lst (es0.set 0 (.ref q1))) pr0).trans hp3
      have mok4 := mok.set (j := 0) hw0 eo
      generalize upd G3 r0 (.lst (es0.set 0 (.ref q1))) = G4 at g4 x4 hp4
      generalize M.set 0 (row0.set 0 (Ent.go (1 + e1) wy 1)) = M4 at x4 mok4
      generalize ess.set 0 (es0.set 0 (.ref q1)) = ess4 at x4
      -- found[1][0] = ..
      refine ⟨_, rfl, _, rfl, p, a2, b2, (S : Int), rfl, hp4, ha2, hb2, by omega, by omega, fun f1 a3 b3 f10 f11 ha3 hb3 => ⟨_, rfl, _, _, rfl, rfl, ?_⟩⟩
      obtain ⟨g5, k5⟩ := g4.drw (a := a3) (b := b3) fp hp
      have x5 := x4.gr k5 (x4.off hp)
      refine ⟨_, rfl, p, a3, b3, 3, rfl, upd_same, ha3, hb3, by decide, by decide, fun f3 a4 b4 f30 f31 ha4 hb4 => ⟨three_le, fun q2 nq2 => ?_⟩⟩
      obtain ⟨g6, k6⟩ := g5.drw (a := a4) (b := b4) fp hp
      have x6 := x5.gr k6 (x5.off hp)
      have hp6 : (upd (upd G4 p (PurseO a3 b3)) p (PurseO a4 b4)) p = some (PurseO a4 b4) := upd_same
      generalize upd (upd G4 p (PurseO a3 b3)) p (PurseO a4 b4) = G6 at g6 x6 hp6 nq2
      have g7 := g6.new (o := .tup [.int f1, .int (0 - wy), .int f3]) nq2
      have k7 := (Gr.refl (mu := mu0) g6.fh).new (o := .tup [.int f1, .int (0 - wy), .int f3]) nq2
      have x7 := x6.gr k7 fun c z => z.elim
      have hp7 := k7.fr _ _ hp6 fun z => z
      have ee2 : Is (upd F3 q2 (.tup [.int f1, .int (0 - wy), .int f3])) (.ref q2) (Ent.go f1 (0 - wy) f3) := ⟨q2, rfl, upd_same⟩
      have eo2 : EOk 4 S (Ent.go f1 (0 - wy) f3) := ⟨fun p w r z => by cases z; exact ⟨⟨f10, f11⟩, by omega, f30, by omega⟩⟩
      generalize upd F3 q2 (.tup [.int f1, .int (0 - wy), .int f3]) = F7 at g7 x7 ee2
      generalize upd G6 q2 (.tup [.int f1, .int (0 - wy), .int f3]) = G7 at g7 x7 hp7
      obtain ⟨r1, es1, row1, hr1, he1, hw1, w1, l1, m1⟩ := x7.slot mok4 (i := 1) (by decide)
      refine ⟨_, rfl, D, _, _, _, rfl, rfl, SqL.of x7.ow.h, atI_nat (j := 1) m1, r1, _, 0, 0, rfl, rfl, w1.h, ixN_of (Int.le_refl _) (by omega), ?_⟩
      have pr1 : p ≠ r1 := fun z => by rw [z] at hp; rw [w1.n] at hp; cases hp
      exact ⟨_, rfl, q F7 _ D rs _ _ 4 S a4 b4 (g7.set w1.f (.inl w1.n)) ((upd_ne pr1).trans hp7) ha4 hb4 (mok4.set (j := 0) hw1 eo2) (x7.put (j := 0) hr1 he1 hw1 ee2)⟩
/-! ### machines that begin with a hundred steps of their own -/
structure RoO (H F1 H1 : Hp) (rs : List Addr) (ess : List (List V)) (M : Mach) : Prop where
  nd : rs.Nodup
  len : rs.length = ess.length
  rows : ∀ (i : Nat) r es, rs[i]? = some r → ess[i]? = some es → Ow H F1 H1 r (.lst es)
  dat : All2 (fun es row => IsAll F1 es row) ess M
theorem RoO.nil {H F1 H1 : Hp} : RoO H F1 H1 [] [] [] := ⟨List.nodup_nil, rfl, fun i r es h _ => (by cases h), All2.nil⟩
theorem RoO.offn {H F1 H1 : Hp} {rs : List Addr} {ess : List (List V)} {M : Mach} (x : RoO H F1 H1 rs ess M) {p : Addr} (h : H1 p = none) : p ∉ rs := fun z => by
  obtain ⟨i, hi⟩ := List.getElem?_of_mem z
  have l := (List.getElem?_eq_some_iff.mp hi).1
  have w := x.rows i p _ hi (List.getElem?_eq_getElem (by rw [← x.len]; exact l))
  rw [w.h] at h; cases h
/-- one more row, of two entries -/
theorem RoO.two {mu : Addr → Prop} {F0 H F G : Hp} {rs : List Addr} {ess : List (List V)} {M : Mach} {e1 e2 : Ent} {o1 o2 : HO} {q1 q2 r : Addr} (h1 : o1 = entO e1) (h2 : o2 = entO e2) (g : Gr mu F0 H F G) (x : RoO H F G rs ess M) (n1 : G q1 = none) (n2 : (upd G q1 o1) q2 = none) (n3 : (upd (upd G q1 o1) q2 o2) r = none) :
    Gr mu F0 H (upd (upd F q1 o1) q2 o2) (upd (upd (upd G q1 o1) q2 o2) r (.lst [.ref q1, .ref q2])) ∧ RoO H (upd (upd F q1 o1) q2 o2) (upd (upd (upd G q1 o1) q2 o2) r (.lst [.ref q1, .ref q2])) (rs ++ [r]) (ess ++ [[.ref q1, .ref q2]]) (M ++ [[e1, e2]]) ∧
      ∀ c o, G c = some o → (upd (upd (upd G q1 o1) q2 o2) r (.lst [.ref q1, .ref q2])) c = some o := by
  subst h1
  subst h2
  have g1 := g.new (o := entO e1) n1
  have g2 := g1.new (o := entO e2) n2
  have g3 := g2.own (o := .lst [.ref q1, .ref q2]) n3
  have k1 := (Gr.refl (mu := mu0) g.fh).new (o := entO e1) n1
  have k2 := k1.new (o := entO e2) n2
  have k3 := k2.own (o := .lst [.ref q1, .ref q2]) n3
  have w : Ow H (upd (upd F q1 (entO e1)) q2 (entO e2)) (upd (upd (upd G q1 (entO e1)) q2 (entO e2)) r (.lst [.ref q1, .ref q2])) r (.lst [.ref q1, .ref q2]) := Ow.mk1 g2 n3
  have off : r ∉ rs := fun z => by
    obtain ⟨i, hi⟩ := List.getElem?_of_mem z
    have l := (List.getElem?_eq_some_iff.mp hi).1
    have w := x.rows i r _ hi (List.getElem?_eq_getElem (by rw [← x.len]; exact l))
    have h := k2.fr _ _ w.h fun z => z
    rw [h] at n3; cases n3
  have i1 : Is (upd (upd F q1 (entO e1)) q2 (entO e2)) (.ref q1) e1 := ⟨q1, rfl, (upd_ne (ne_of_none upd_same n2)).trans upd_same⟩
  have i2 : Is (upd (upd F q1 (entO e1)) q2 (entO e2)) (.ref q2) e2 := ⟨q2, rfl, upd_same⟩
  refine ⟨g3, ⟨nd_snoc x.nd off, by rw [List.length_append, List.length_append, x.len]; rfl, fun i r' es h1 h2 => ?_, (x.dat.imp fun es row z => z.up k3.ff).app (All2.one (All2.cons i1 (All2.one i2)))⟩, fun c o h => k3.fr c o h fun z => z⟩
  by_cases l : i < rs.length
  · rw [List.getElem?_append_left l] at h1
    rw [List.getElem?_append_left (by rw [← x.len]; exact l)] at h2
    exact (x.rows i r' es h1 h2).call k3 fun z => z
  · rw [List.getElem?_append_right (by omega)] at h1
    rw [List.getElem?_append_right (by rw [← x.len]; omega), ← x.len] at h2
    cases e : i - rs.length with
    | zero =>
      rw [e] at h1 h2
      cases h1; cases h2
      exact w
    | succ n => rw [e] at h1; cases h1
theorem RoO.mach {H F1 H1 : Hp} {mu : Addr → Prop} {F0 : Hp} {rs : List Addr} {ess : List (List V)} {M : Mach} {m : Addr} (x : RoO H F1 H1 rs ess M) (g : Gr mu F0 H F1 H1) (n : H1 m = none) : MaO H F1 (upd H1 m (.lst (rs.map V.ref))) m rs ess M :=
  ⟨Ow.mk1 g n, x.nd, x.offn n, x.len, fun i r es h1 h2 => (x.rows i r es h1 h2).own n, x.dat⟩
def late0 : Mach := [[.go 1 1 1, .go 1 (-1) 1], [.go 1 (-1) 0, .go 0 (-1) 2], [.emp, .go 1 (-1) 3], [.go 1 1 3, .go 0 1 0]]
theorem eok {R S : Nat} {p w r : Int} (h : (0 ≤ p ∧ p < S) ∧ (w = -1 ∨ w = 1) ∧ 0 ≤ r ∧ r < R) : EOk R S (.go p w r) := ⟨fun p w r z => by cases z; exact h⟩
theorem late0_ent : ∀ row ∈ late0, row.length = 2 ∧ ∀ e ∈ row, EOk 4 2 e := by
  intro row m
  have em : EOk 4 2 .emp := ⟨fun p w r z => by cases z⟩
  have mm : ∀ (e1 e2 : Ent), EOk 4 2 e1 → EOk 4 2 e2 → [e1, e2].length = 2 ∧ ∀ e ∈ [e1, e2], EOk 4 2 e := fun e1 e2 h1 h2 => ⟨rfl, fun e m => by
    rcases List.mem_cons.mp m with rfl | m
    · exact h1
    · rw [List.mem_singleton.mp m]; exact h2⟩
  unfold late0 at m
  rcases List.mem_cons.mp m with rfl | m
  · exact mm _ _ (eok (by decide)) (eok (by decide))
  rcases List.mem_cons.mp m with rfl | m
  · exact mm _ _ (eok (by decide)) (eok (by decide))
  rcases List.mem_cons.mp m with rfl | m
  · exact mm _ _ em (eok (by decide))
  rw [List.mem_singleton.mp m]
  exact mm _ _ (eok (by decide)) (eok (by decide))
theorem EOk.mono {R S S' : Nat} {e : Ent} (h : EOk R S e) (l : S ≤ S') : EOk R S' e := ⟨fun p w r z => by
  obtain ⟨h1, h2, h3⟩ := h.ok p w r z
  exact ⟨⟨h1.1, by omega⟩, h2, h3⟩⟩
theorem late0_ok : MOk late0 4 2 := ⟨by decide, by decide, by decide, by decide, rfl, fun r m => (late0_ent r m).1, fun r m => (late0_ent r m).2⟩
theorem four_le : 4 ≤ sizeLine := by decide
def sp_L_late : Sp := sp_L_machine
theorem ok_L_late (t : Tx K mg) : FnOk P w K mg base CX0 2 t.a_L_late t.fd_L_late ["_law_purse_here"] sp_L_late := by
  refine t.F_L_late.ok sc_L_late (fun vs H Q E h => ?_) (fun cdv A outer s H vs Q E hr h => ?_)
  · obtain ⟨F, p, a, b, rfl, _⟩ := h
    rfl
  · obtain ⟨F, p, a, b, rfl, sF, fp, hp, ha, hb, q⟩ := h
    refine ⟨_, (pss_cons (ps_set (i := 1) sc_L_late.nd rfl (by first | exact Or.inl rfl | exact Or.inr rfl) (pe_lst (pa_cons (pe_lst (pa_cons (pe_tup (pa_cons pe_int (pa_cons pe_int (pa_cons pe_int pa_nil)))) (pa_cons (pe_tup (pa_cons pe_int (pa_cons (pe_un un_neg pe_int) (pa_cons pe_int pa_nil)))) pa_nil))) (pa_cons (pe_lst (pa_cons (pe_tup (pa_cons pe_int (pa_cons (pe_un un_neg pe_int) (pa_cons pe_int pa_nil)))) (pa_cons (pe_tup (pa_cons pe_int (pa_cons (pe_un un_neg pe_int) (pa_cons pe_int pa_nil)))) pa_nil))) (pa_cons (pe_lst (pa_cons (pe_tup pa_nil) (pa_cons (pe_tup (pa_cons pe_int (pa_cons (pe_un un_neg pe_int) (pa_cons pe_int pa_nil)))) pa_nil))) (pa_cons (pe_lst (pa_cons (pe_tup (pa_cons pe_int (pa_cons pe_int (pa_cons pe_int pa_nil)))) (pa_cons (pe_tup (pa_cons pe_int (pa_cons pe_int (pa_cons pe_int pa_nil)))) pa_nil))) pa_nil))))))
      (pss_cons (ps_set (i := 2) sc_L_late.nd rfl (by first | exact Or.inl rfl | exact Or.inr rfl) (pe_call (ok_L_draw t) (hr.mono (by decide)) (by rfl) t.m_L_draw t.F_L_draw.kp t.b_L_draw .nil pass0 (pa_cons (pv 0) (pa_cons pe_int pa_nil))))
      (pss_cons (ps_if (pt_cmpR op_eq (pv 2) pe_int (nomark _)) (pss_one (ps_ret (pv 1))) pss_nil)
      (pss_cons (ps_if (pt_cmpR op_lt (pv 2) pe_int (nomark _)) (pss_cons (ps_setLc (i := 1) (own := [("_law_row", 3)]) (g := gName 3) (tt := tYes) rfl sc_L_late.nd rfl rfl (sw_true rfl rfl rfl (by decide +kernel)) (pi_list (pv 1)) (blkOk_by (N := N_L_late) (sc := defScope s_L_late) (by decide +kernel)) (fun _ _ _ _ _ => (pg_name (i := 3) sc_L_late.nd rfl (by first | exact Or.inl rfl | exact Or.inr rfl))) (fun _ _ _ _ _ => pts_nil) (fun _ _ _ _ _ => (pe_op op_cat (pv 3) (pe_lst (pa_cons (pe_tup (pa_cons (pe_call (ok_L_draw t) (hr.mono (by decide)) (by rfl) t.m_L_draw t.F_L_draw.kp t.b_L_draw .nil pass0 (pa_cons (pv 0) (pa_cons pe_int pa_nil))) (pa_cons (pe_op op_sub (pe_op op_mul pe_int (pe_call (ok_L_draw t) (hr.mono (by decide)) (by rfl) t.m_L_draw t.F_L_draw.kp t.b_L_draw .nil pass0 (pa_cons (pv 0) (pa_cons pe_int pa_nil)))) pe_int) (pa_cons (pe_call (ok_L_draw t) (hr.mono (by decide)) (by rfl) t.m_L_draw t.F_L_draw.kp t.b_L_draw .nil pass0 (pa_cons (pv 0) (pa_cons pe_int pa_nil))) pa_nil)))) pa_nil)))))
      (pss_cons (ps_asg (pe_tup (pa_cons pe_int (pa_cons (pe_op op_sub (pe_op op_mul pe_int (pe_call (ok_L_draw t) (hr.mono (by decide)) (by rfl) t.m_L_draw t.F_L_draw.kp t.b_L_draw .nil pass0 (pa_cons (pv 0) (pa_cons pe_int pa_nil)))) pe_int) (pa_cons pe_int pa_nil)))) (pg_sub (pe_ix ix_list (pv 1) pe_int (fun _ _ => rfl)) pe_int set_list))
      (pss_one (ps_ret (pv 1))))) pss_nil)
      (pss_cons (ps_asg (pe_tup (pa_cons (pe_call (ok_L_draw t) (hr.mono (by decide)) (by rfl) t.m_L_draw t.F_L_draw.kp t.b_L_draw .nil pass0 (pa_cons (pv 0) (pa_cons pe_int pa_nil))) (pa_cons (pe_op op_sub (pe_op op_mul pe_int (pe_call (ok_L_draw t) (hr.mono (by decide)) (by rfl) t.m_L_draw t.F_L_draw.kp t.b_L_draw .nil pass0 (pa_cons (pv 0) (pa_cons pe_int pa_nil)))) pe_int) (pa_cons (pe_call (ok_L_draw t) (hr.mono (by decide)) (by rfl) t.m_L_draw t.F_L_draw.kp t.b_L_draw .nil pass0 (pa_cons (pv 0) (pa_cons pe_int pa_nil))) pa_nil)))) (pg_sub (pe_ix ix_list (pv 1) pe_int (fun _ _ => rfl)) pe_int set_list))
      (pss_one (ps_ret (pv 1)))))))), ?_⟩
    have g0 : Gr (muP p) F H F H := Gr.refl sF
    -- the rows
    refine ⟨three_le, fun q1 n1 => ⟨_, rfl, three_le, fun q2 n2 => ⟨two_le, fun r1 n3 => ?_⟩⟩⟩
    obtain ⟨g1, x1, k1⟩ := RoO.two (e1 := .go 1 1 1) (e2 := .go 1 (-1) 1) rfl rfl g0 (RoO.nil (H := H)) n1 n2 n3
    have hp1 := k1 _ _ hp
    refine ⟨_, rfl, three_le, fun q3 n4 => ⟨_, rfl, three_le, fun q4 n5 => ⟨two_le, fun r2 n6 => ?_⟩⟩⟩
    obtain ⟨g2, x2, k2⟩ := RoO.two (e1 := .go 1 (-1) 0) (e2 := .go 0 (-1) 2) rfl rfl g1 x1 n4 n5 n6
    have hp2 := k2 _ _ hp1
    refine ⟨nil_le, fun q5 n7 => ⟨_, rfl, three_le, fun q6 n8 => ⟨two_le, fun r3 n9 => ?_⟩⟩⟩
    obtain ⟨g3, x3, k3⟩ := RoO.two (e1 := .emp) (e2 := .go 1 (-1) 3) rfl rfl g2 x2 n7 n8 n9
    have hp3 := k3 _ _ hp2
    refine ⟨three_le, fun q7 n10 => ⟨three_le, fun q8 n11 => ⟨two_le, fun r4 n12 => ?_⟩⟩⟩
    obtain ⟨g4, x4, k4⟩ := RoO.two (e1 := .go 1 1 3) (e2 := .go 0 1 0) rfl rfl g3 x3 n10 n11 n12
    have hp4 := k4 _ _ hp3
    refine ⟨four_le, fun D nD => ?_⟩
    have x5 := x4.mach g4 nD
    have g5 := g4.own (o := .lst (([r1, r2, r3, r4] : List Addr).map V.ref)) nD
    have hp5 := ln (u := .lst (([r1, r2, r3, r4] : List Addr).map V.ref)) nD hp4
    -- kind
    refine ⟨_, rfl, p, a, b, 4, rfl, hp5, ha, hb, by decide, by decide, fun kd a1 b1 k0 k1' ha1 hb1 => ?_⟩
    obtain ⟨g6, k6⟩ := g5.drw (a := a1) (b := b1) fp hp
    have x6 := x5.gr k6 (x5.off hp)
    refine ⟨_, rfl, rfl, _, rfl, ?_⟩
    refine ite2 (fun _ => ⟨_, rfl, q _ _ D _ _ late0 4 2 a1 b1 g6 upd_same ha1 hb1 late0_ok x6⟩) (fun _ => ?_)
    refine ⟨_, rfl, _, _, rfl, rfl, _, rfl, ?_⟩
    refine ite2 (fun _ => ?_) (fun _ => ?_)
    · refine ⟨_, rfl, D, rfl, ⟨_, SqL.of x6.ow.h⟩, fun E nE => ?_⟩
      have g7 := g6.own (o := .lst []) nE
      have x7 := x6.gr ((Gr.refl (mu := mu0) g6.fh).own (o := .lst []) nE) fun c z => z.elim
      have DE : D ≠ E := x6.ow.ne nE
      have offE := x6.offn nE
      have hp7 := ln (u := .lst []) nE (upd_same (a := p) (o := PurseO a1 b1))
      have y7 : MaO H _ _ E [] [] [] := ⟨Ow.mk1 g6 nE, List.nodup_nil, (fun z => nomatch z), rfl, fun i r es h _ => (by cases h), All2.nil⟩
      refine lc_list (K := K) (a := D) (xs := ([r1, r2, r3, r4] : List Addr).map V.ref) (fun i G => ∃ (F1 : Hp) (rs : List Addr) (ess : List (List V)) (M : Mach) (a b : Int), Gr (muP p) F H F1 G ∧ G p = some (PurseO a b) ∧ 0 ≤ a ∧ 0 ≤ b ∧ MaO H F1 G D [r1, r2, r3, r4] [[.ref q1, .ref q2], [.ref q3, .ref q4], [.ref q5, .ref q6], [.ref q7, .ref q8]] late0 ∧
        MaO H F1 G E rs ess M ∧ D ∉ rs ∧ (∀ r ∈ rs, r ∉ [r1, r2, r3, r4]) ∧ M.length = i ∧ ∀ row ∈ M, row.length = 3 ∧ ∀ e ∈ row, EOk 4 3 e) ⟨_, [], [], [], a1, b1, g7, hp7, ha1, hb1, x7, y7, (fun z => nomatch z), (fun r z => nomatch z), rfl, fun row z => nomatch z⟩ (fun i G _ ⟨F1, rs, ess, M, a, b, _, _, _, _, x, _⟩ => SqL.of x.ow.h) ?_ ?_
      · rintro i y G hi ⟨F1, rs, ess, M, a, b, g, hpG, ha, hb, x, ym, dD, dR, lM, hM⟩
        have il : i < 4 := (List.getElem?_eq_some_iff.mp hi).1
        obtain ⟨ri, es, row, hr, he, hw, w, les, m⟩ := x.slot late0_ok il
        have hi : (([r1, r2, r3, r4] : List Addr).map V.ref)[i]? = some y := hi
        rw [m] at hi
        cases hi
        refine ⟨rfl, yes ⟨_, rfl, ?_⟩⟩
        refine ⟨_, rfl, p, a, b, 3, rfl, hpG, ha, hb, by decide, by decide, fun e1 a1 b1 e10 e11 ha1 hb1 => ?_⟩
        obtain ⟨g1, k1⟩ := g.drw (a := a1) (b := b1) fp hp
        refine ⟨_, rfl, p, a1, b1, 2, rfl, upd_same, ha1, hb1, by decide, by decide, fun e2 a2 b2 e20 e21 ha2 hb2 => ⟨_, _, rfl, rfl, .inl ⟨by decide, by decide⟩, _, _, rfl, rfl, ?_⟩⟩
        obtain ⟨g2, k2⟩ := g1.drw (a := a2) (b := b2) fp hp
        refine ⟨_, rfl, p, a2, b2, 4, rfl, upd_same, ha2, hb2, by decide, by decide, fun e3 a3 b3 e30 e31 ha3 hb3 => ⟨three_le, fun q0 nq => ⟨one_le, fun l nl => ?_⟩⟩⟩
        obtain ⟨g3, k3⟩ := g2.drw (a := a3) (b := b3) fp hp
        have k := (k1.trans k2).trans k3
        have x3 := x.gr k (x.off hp)
        have y3 := ym.gr k (ym.off hp)
        have hp3 : (upd (upd (upd G p (PurseO a1 b1)) p (PurseO a2 b2)) p (PurseO a3 b3)) p = some (PurseO a3 b3) := upd_same
        generalize upd (upd (upd G p (PurseO a1 b1)) p (PurseO a2 b2)) p (PurseO a3 b3) = G3 at g3 k x3 y3 hp3 nq nl
        have g4 := (g3.new (o := .tup [.int e1, .int (2 * e2 - 1), .int e3]) nq).own (o := .lst [.ref q0]) nl
        have k4 := ((Gr.refl (mu := mu0) g3.fh).new (o := .tup [.int e1, .int (2 * e2 - 1), .int e3]) nq).own (o := .lst [.ref q0]) nl
        have x4 := x3.gr k4 fun c z => z.elim
        have y4 := y3.gr k4 fun c z => z.elim
        have hp4 := k4.fr _ _ hp3 fun z => z
        have ee : Is (upd F1 q0 (.tup [.int e1, .int (2 * e2 - 1), .int e3])) (.ref q0) (Ent.go e1 (2 * e2 - 1) e3) := ⟨q0, rfl, upd_same⟩
        have eo : EOk 4 3 (Ent.go e1 (2 * e2 - 1) e3) := eok ⟨⟨e10, e11⟩, by omega, e30, e31⟩
        have w4 := x4.rows _ _ _ hr he
        have hl4 : (upd (upd G3 q0 (.tup [.int e1, .int (2 * e2 - 1), .int e3])) l (.lst [.ref q0])) l = some (.lst [.ref q0]) := upd_same
        have al4 := x4.dat.2 i es row he hw
        generalize upd F1 q0 (.tup [.int e1, .int (2 * e2 - 1), .int e3]) = F4 at g4 k4 x4 y4 ee w4 al4
        generalize upd (upd G3 q0 (.tup [.int e1, .int (2 * e2 - 1), .int e3])) l (.lst [.ref q0]) = G4 at g4 k4 x4 y4 hp4 w4 hl4
        refine ⟨ri, l, es, [.ref q0], rfl, rfl, w4.h, hl4, by rw [les]; exact three_le, fun r nr => ?_⟩
        have offx := x4.offn nr
        have offy := y4.offn nr
        have g5 := g4.own (o := .lst (es ++ [.ref q0])) nr
        have k5 := (Gr.refl (mu := mu0) g4.fh).own (o := .lst (es ++ [.ref q0])) nr
        have x5 := x4.gr k5 fun c z => z.elim
        have y5 := y4.gr k5 fun c z => z.elim
        have w5 : Ow H F4 (upd G4 r (.lst (es ++ [.ref q0]))) r (.lst (es ++ [.ref q0])) := Ow.mk1 g4 nr
        have hp5 := ln (u := .lst (es ++ [.ref q0])) nr hp4
        have lrs : rs.length = i := by rw [ym.len, ym.dat.1, lM]
        refine ⟨rs.map V.ref, y5.ow.h, by rw [List.length_map]; exact lt_size (by omega), ?_⟩
        have e1' : rs.map V.ref ++ [V.ref r] = (rs ++ [r]).map V.ref := by rw [List.map_append]; rfl
        rw [e1']
        have pE : p ≠ E := fun z => by rw [z] at hp; rw [y5.ow.n] at hp; cases hp
        have ENotD : E ≠ D := fun z => by have h1 := y5.ow.h; rw [z] at h1; exact DE z.symm
        refine ⟨F4, rs ++ [r], ess ++ [_], M ++ [row ++ [Ent.go e1 (2 * e2 - 1) e3]], a3, b3, g5.set y5.ow.f (.inl y5.ow.n), by rw [upd_ne pE]; exact hp5, ha3, hb3, x5.gr (mu := fun c => c = E) ((Gr.refl g5.fh).set y5.ow.f (.inr rfl)) (fun c z => by rw [show c = E from z]; exact ⟨ENotD, offE.2⟩), y5.add w5 offy (al4.app (All2.one ee)), fun z => ?_, fun r' z => ?_, by rw [List.length_append, lM]; rfl, fun row' z => ?_⟩
        · rcases List.mem_append.mp z with z | z
          · exact dD z
          · exact offx.1 (List.mem_singleton.mp z).symm
        · rcases List.mem_append.mp z with z | z
          · exact dR r' z
          · rw [List.mem_singleton.mp z]; exact offx.2
        · rcases List.mem_append.mp z with z | z
          · exact hM row' z
          · rw [List.mem_singleton.mp z]
            obtain ⟨l1, l2⟩ := late0_ent row (List.mem_of_getElem? hw)
            refine ⟨by rw [List.length_append, l1]; rfl, fun e z => ?_⟩
            rcases List.mem_append.mp z with z | z
            · exact (l2 e z).mono (by decide)
            · rw [List.mem_singleton.mp z]; exact eo
      · rintro G ⟨F1, rs, ess, M, a, b, g, hpG, ha, hb, x, ym, dD, dR, lM, hM⟩
        have mok : MOk M 4 3 := ⟨by decide, by decide, by decide, by decide, lM, fun r z => (hM r z).1, fun r z => (hM r z).2⟩
        refine ⟨_, rfl, p, a, b, 2, rfl, hpG, ha, hb, by decide, by decide, fun e2 a2 b2 e20 e21 ha2 hb2 => ⟨_, _, rfl, rfl, .inl ⟨by decide, by decide⟩, _, _, rfl, rfl, three_le, fun q0 nq => ?_⟩⟩
        obtain ⟨g2, k2⟩ := g.drw (a := a2) (b := b2) fp hp
        have y2 := ym.gr k2 (ym.off hp)
        have hp2 : (upd G p (PurseO a2 b2)) p = some (PurseO a2 b2) := upd_same
        generalize upd G p (PurseO a2 b2) = G2 at g2 k2 y2 hp2 nq
        have g3 := g2.new (o := .tup [.int 2, .int (2 * e2 - 1), .int 2]) nq
        have k3 := (Gr.refl (mu := mu0) g2.fh).new (o := .tup [.int 2, .int (2 * e2 - 1), .int 2]) nq
        have y3 := y2.gr k3 fun c z => z.elim
        have hp3 := k3.fr _ _ hp2 fun z => z
        have ee : Is (upd F1 q0 (.tup [.int 2, .int (2 * e2 - 1), .int 2])) (.ref q0) (Ent.go 2 (2 * e2 - 1) 2) := ⟨q0, rfl, upd_same⟩
        have eo : EOk 4 3 (Ent.go 2 (2 * e2 - 1) 2) := eok ⟨by decide, by omega, by decide⟩
        generalize upd F1 q0 (.tup [.int 2, .int (2 * e2 - 1), .int 2]) = F3 at g3 y3 ee
        generalize upd G2 q0 (.tup [.int 2, .int (2 * e2 - 1), .int 2]) = G3 at g3 y3 hp3
        obtain ⟨r0, es0, row0, hr0, he0, hw0, w0, l0, m0⟩ := y3.slot mok (i := 2) (by decide)
        refine ⟨_, rfl, E, _, _, _, rfl, rfl, SqL.of y3.ow.h, atI_nat (j := 2) m0, r0, _, 0, 0, rfl, rfl, w0.h, ixN_of (Int.le_refl _) (by omega), ?_⟩
        have pr0 : p ≠ r0 := fun z => by rw [z] at hp; rw [w0.n] at hp; cases hp
        exact ⟨_, rfl, q F3 _ E rs _ _ 4 3 a2 b2 (g3.set w0.f (.inl w0.n)) ((upd_ne pr0).trans hp3) ha2 hb2 (mok.set (j := 0) hw0 eo) (y3.put (j := 0) hr0 he0 hw0 ee)⟩
    · refine ⟨_, rfl, p, a1, b1, 2, rfl, upd_same, ha1, hb1, by decide, by decide, fun e1 a2 b2 e10 e11 ha2 hb2 => ?_⟩
      obtain ⟨g7, k7⟩ := g6.drw (a := a2) (b := b2) fp hp
      refine ⟨_, rfl, p, a2, b2, 2, rfl, upd_same, ha2, hb2, by decide, by decide, fun e2 a3 b3 e20 e21 ha3 hb3 => ⟨_, _, rfl, rfl, .inl ⟨by decide, by decide⟩, _, _, rfl, rfl, ?_⟩⟩
      obtain ⟨g8, k8⟩ := g7.drw (a := a3) (b := b3) fp hp
      refine ⟨_, rfl, p, a3, b3, 4, rfl, upd_same, ha3, hb3, by decide, by decide, fun e3 a4 b4 e30 e31 ha4 hb4 => ⟨three_le, fun q0 nq => ?_⟩⟩
      obtain ⟨g9, k9⟩ := g8.drw (a := a4) (b := b4) fp hp
      have k := (k7.trans k8).trans k9
      have x9 := x6.gr k (x6.off hp)
      have g10 := g9.new (o := .tup [.int e1, .int (2 * e2 - 1), .int e3]) nq
      have k10 := (Gr.refl (mu := mu0) g9.fh).new (o := .tup [.int e1, .int (2 * e2 - 1), .int e3]) nq
      have x10 := x9.gr k10 fun c z => z.elim
      have hp10 := k10.fr _ _ (upd_same (a := p) (o := PurseO a4 b4)) fun z => z
      have eo : EOk 4 2 (Ent.go e1 (2 * e2 - 1) e3) := eok ⟨⟨e10, e11⟩, by omega, e30, e31⟩
      obtain ⟨r0, es0, row0, hr0, he0, hw0, w0, l0, m0⟩ := x10.slot late0_ok (i := 2) (by decide)
      refine ⟨_, rfl, D, _, _, _, rfl, rfl, SqL.of x10.ow.h, atI_nat (j := 2) m0, r0, _, 0, 0, rfl, rfl, w0.h, ixN_of (Int.le_refl _) (by omega), ?_⟩
      have pr0 : p ≠ r0 := fun z => by rw [z] at hp; rw [w0.n] at hp; cases hp
      exact ⟨_, rfl, q _ _ D _ _ _ 4 2 a4 b4 (g10.set w0.f (.inl w0.n)) ((upd_ne pr0).trans hp10) ha4 hb4 (late0_ok.set (j := 0) hw0 eo) (x10.put (j := 0) (v := .ref q0) (e := Ent.go e1 (2 * e2 - 1) e3) hr0 he0 hw0 ⟨q0, rfl, upd_same⟩)⟩
def sp_L_any : Sp := sp_L_machine
theorem ok_L_any (t : Tx K mg) : FnOk P w K mg base CX0 3 t.a_L_any t.fd_L_any ["_law_purse_here"] sp_L_any := by
  refine t.F_L_any.ok sc_L_any (fun vs H Q E h => ?_) (fun cdv A outer s H vs Q E hr h => ?_)
  · obtain ⟨F, p, a, b, rfl, _⟩ := h
    rfl
  · obtain ⟨F, p, a, b, rfl, sF, fp, hp, ha, hb, q⟩ := h
    refine ⟨_, (pss_cons (ps_if (pt_cmpR op_eq (pe_call (ok_L_draw t) (hr.mono (by decide)) (by rfl) t.m_L_draw t.F_L_draw.kp t.b_L_draw .nil pass0 (pa_cons (pv 0) (pa_cons pe_int pa_nil))) pe_int (nomark _)) (pss_one (ps_ret (pe_call (ok_L_late t) (hr.mono (by decide)) (by rfl) t.m_L_late t.F_L_late.kp t.b_L_late .nil pass0 (pa_cons (pv 0) pa_nil)))) pss_nil)
      (pss_cons (ps_if (pt_cmpR op_eq (pe_call (ok_L_draw t) (hr.mono (by decide)) (by rfl) t.m_L_draw t.F_L_draw.kp t.b_L_draw .nil pass0 (pa_cons (pv 0) (pa_cons pe_int pa_nil))) pe_int (nomark _)) (pss_one (ps_ret (pe_call (ok_L_led t) (hr.mono (by decide)) (by rfl) t.m_L_led t.F_L_led.kp t.b_L_led .nil pass0 (pa_cons (pv 0) pa_nil)))) pss_nil)
      (pss_one (ps_ret (pe_call (ok_L_machine t) (hr.mono (by decide)) (by rfl) t.m_L_machine t.F_L_machine.kp t.b_L_machine .nil pass0 (pa_cons (pv 0) pa_nil)))))), ?_⟩
    have g0 : Gr (muP p) F H F H := Gr.refl sF
    refine ⟨_, rfl, p, a, b, 6, rfl, hp, ha, hb, by decide, by decide, fun d1 a1 b1 d10 d11 ha1 hb1 => ⟨rfl, _, rfl, ?_⟩⟩
    have g1 := g0.set (o := PurseO a1 b1) fp (.inr rfl)
    have up : ∀ {H1 : Hp} {u : HO}, H p = some u → (∀ c, H1 c = none → H c = none) → ∀ {F' H' m rs ess M}, MaO H1 F' H' m rs ess M → MaO H F' H' m rs ess M := by
      intro H1 u _ t F' H' m rs ess M x
      exact ⟨⟨t _ x.ow.n, x.ow.f, x.ow.h⟩, x.nd, x.ne, x.len, fun i r es h1 h2 => ⟨t _ (x.rows i r es h1 h2).n, (x.rows i r es h1 h2).f, (x.rows i r es h1 h2).h⟩, x.dat⟩
    refine ite2 (fun _ => ?_) (fun _ => ?_)
    · exact ⟨_, rfl, F, p, a1, b1, rfl, g1.fh, fp, upd_same, ha1, hb1, fun F' H' m rs ess M R S a' b' g hp' ha' hb' hM x => q F' H' m rs ess M R S a' b' (g1.trans g) hp' ha' hb' hM (up hp g1.th x)⟩
    · refine ⟨_, rfl, p, a1, b1, 3, rfl, upd_same, ha1, hb1, by decide, by decide, fun d2 a2 b2 d20 d21 ha2 hb2 => ⟨rfl, _, rfl, ?_⟩⟩
      have g2 := g1.set (o := PurseO a2 b2) fp (.inr rfl)
      refine ite2 (fun _ => ?_) (fun _ => ?_)
      · exact ⟨_, rfl, F, p, a2, b2, rfl, g2.fh, fp, upd_same, ha2, hb2, fun F' H' m rs ess M R S a' b' g hp' ha' hb' hM x => q F' H' m rs ess M R S a' b' (g2.trans g) hp' ha' hb' hM (up hp g2.th x)⟩
      · exact ⟨_, rfl, F, p, a2, b2, rfl, g2.fh, fp, upd_same, ha2, hb2, fun F' H' m rs ess M R S a' b' g hp' ha' hb' hM x => q F' H' m rs ess M R S a' b' (g2.trans g) hp' ha' hb' hM (up hp g2.th x)⟩
theorem upd_comm {H : Hp} {a b : Addr} {u v : HO} (n : a ≠ b) : upd (upd H a u) b v = upd (upd H b v) a u := by
  funext c
  by_cases e1 : c = a
  · subst e1
    rw [upd_ne n, upd_same, upd_same]
  · by_cases e2 : c = b
    · subst e2
      rw [upd_same, upd_ne e1, upd_same]
    · rw [upd_ne e2, upd_ne e1, upd_ne e1, upd_ne e2]
theorem take_none {l : List PI} (h : Nd l) {i : Nat} (hi : i < l.length) : look ((l.take i).filter nz) l[i].a = none := by
  refine look_none.mpr fun m => ?_
  obtain ⟨q, hq, e⟩ := List.mem_map.mp m
  have hq := (List.mem_filter.mp hq).1
  obtain ⟨j, hj⟩ := List.getElem?_of_mem hq
  rw [List.getElem?_take] at hj
  split at hj
  · rename_i lj
    have h1 : (l.map fun p : PI => p.a)[j]? = some l[i].a := by rw [List.getElem?_map, hj, ← e]; rfl
    have h2 : (l.map fun p : PI => p.a)[i]? = some l[i].a := by rw [List.getElem?_map, List.getElem?_eq_getElem hi]; rfl
    have := nd_ix h h1 h2
    omega
  · cases hj
def sp_plain : Sp := fun vs H Q _ => ∃ (F : Hp) (d : Addr) (l : List PI), vs = [.ref d] ∧ Same F H ∧ H d = some (.dK (dI l)) ∧ Nd l ∧ l.length ≤ 100000 ∧
  ∀ (F' H' : Hp) (e : Addr), Gr mu0 F H F' H' → Ow H F' H' e (.dK (dI (l.filter nz))) → Q (.ref e) H'
theorem ok_plain (t : Tx K mg) : FnOk P w K mg base CX0 1 t.a_plain t.fd_plain ["signs"] sp_plain := by
  refine t.F_plain.ok sc_plain (fun vs H Q E h => ?_) (fun cdv A outer s H vs Q E hr h => ?_)
  · obtain ⟨F, d, l, rfl, _⟩ := h
    rfl
  · obtain ⟨F, d, l, rfl, sF, hd, nd, hl, q⟩ := h
    refine ⟨_, (pss_cons (ps_set (i := 1) sc_plain.nd rfl (by first | exact Or.inl rfl | exact Or.inr rfl) pe_dnewK)
      (pss_cons (ps_lock (ps_for PassesOwn.never rfl (pi_keys (pv 0)) (pg_name (i := 2) sc_plain.nd rfl (by first | exact Or.inl rfl | exact Or.inr rfl)) (pss_one (ps_if (pt_cmpR op_ne (pe_dget (hu_of hr) (pv 0) (pv 2) (fun _ _ => rfl)) pe_int (nomark _)) (pss_one (ps_dput (hu_of hr) (pv 1) (pv 2) (pe_dget (hu_of hr) (pv 0) (pv 2) (fun _ _ => rfl)) rfl)) pss_nil))))
      (pss_one (ps_ret (pv 1))))), ?_⟩
    refine fun e ne => ?_
    have de : d ≠ e := ne_of_none hd ne
    have hd1 := ln (u := .dK []) ne hd
    refine ⟨d, _, hd1, trivial, fun od => ?_⟩
    rw [upd_comm de.symm]
    have sL := lock_in (d := d) (o := .frz od (.dK (dI l))) sF
    have neB : (upd H d (.frz od (.dK (dI l)))) e = none := by rw [upd_ne de.symm]; exact ne
    have hdB : (upd H d (.frz od (.dK (dI l)))) d = some (.frz od (.dK (dI l))) := upd_same
    have dl : (dI l).length = l.length := by unfold dI; rw [List.length_map]
    have g0 : Gr mu0 _ (upd H d (.frz od (.dK (dI l)))) _ (upd H d (.frz od (.dK (dI l)))) := Gr.refl sL
    have g1 := g0.own (o := .dK (dI [])) neB
    have w1 : Ow _ _ (upd (upd H d (.frz od (.dK (dI l)))) e (.dK (dI []))) e (.dK (dI [])) := Ow.mk1 g0 neB
    refine ⟨_, rfl, d, od, rfl, .inl ⟨_, ln neB hdB, for_it walk_keys (fun i σ G => ∃ v2 : Option V, σ = [some (.ref d), some (.ref e), v2] ∧ Gr mu0 (fun c => if c = d then none else F c) (upd H d (.frz od (.dK (dI l)))) (fun c => if c = d then none else F c) G ∧ Ow (upd H d (.frz od (.dK (dI l)))) (fun c => if c = d then none else F c) G e (.dK (dI ((l.take i).filter nz)))) ⟨none, rfl, g1, w1⟩ (fun i σ G _ ⟨_, _, g, _⟩ => g.fr _ _ hdB fun z => z) ?_ ?_⟩⟩
    · rintro i x σ G G' hi ⟨v2, rfl, g, w⟩ ⟨rfl, k, v, hk, rfl⟩
      rw [dl] at hi
      rw [dI_get hi] at hk
      cases hk
      have hdG := g.fr _ _ hdB fun z => z
      have dg : DGet G' d (kV (Sum.inl l[i].a)) (some (.int l[i].b)) := .inl ⟨_, Sum.inl l[i].a, .inr ⟨od, hdG⟩, rfl, by rw [dI_val, look_mem nd (List.getElem_mem hi)]; rfl⟩
      refine ⟨_, rfl, _, rfl, d, _, rfl, dg, rfl, _, rfl, ?_⟩
      rw [filter_take_succ hi]
      refine ite2 (fun c => ?_) (fun c => ?_)
      · have c' : nz l[i] = true := by
          refine decide_eq_true fun z => ?_
          rw [z, decide_eq_true rfl] at c
          cases c
        rw [if_pos c']
        refine ⟨_, rfl, _, rfl, d, _, rfl, dg, _, rfl, _, rfl, e, _, rfl, DPut.k (k := Sum.inl l[i].a) w.h ?_, ?_⟩
        · exact size_dI (Nat.le_trans (List.length_filter_le _ _) (by rw [List.length_take]; omega)) (n := 100000) (by decide)
        · rw [dI_put, put_new _ (take_none nd hi)]
          exact ⟨_, rfl, g.set w.f (.inl w.n), w.set⟩
      · have c' : ¬ nz l[i] = true := fun z => by
          refine c ?_
          have z := of_decide_eq_true z
          show (!decide (V.int l[i].b = V.int 0)) = true
          rw [decide_eq_false (fun e => z (V.int.inj e))]; rfl
        rw [if_neg c', List.append_nil]
        exact ⟨_, rfl, g, w⟩
    · rintro σ G ⟨v2, rfl, g, w⟩
      rw [dl, List.take_length] at w
      obtain ⟨h1, h2, h3⟩ := lock_out sF hd g
      refine ⟨h1, _, rfl, ?_⟩
      refine q _ _ e h3 ⟨ne, ?_, (upd_ne de.symm).trans w.h⟩
      have f := w.f
      simp only [de.symm, if_false] at f ⊢
      exact f
/-! ### all setups of a run -/
theorem get_snoc {α : Type} {xs : List α} {x y : α} {i : Nat} (h : (xs ++ [x])[i]? = some y) : (i < xs.length ∧ xs[i]? = some y) ∨ (i = xs.length ∧ y = x) := by
  by_cases l : i < xs.length
  · rw [List.getElem?_append_left l] at h
    exact .inl ⟨l, h⟩
  · rw [List.getElem?_append_right (by omega)] at h
    cases e : i - xs.length with
    | zero => rw [e] at h; cases h; exact .inr ⟨by omega, rfl⟩
    | succ n => rw [e] at h; cases h
def Hist (M : Mach) (k : Nat) (cs : List Cfg) : Prop := cs.length = k + 1 ∧ ∀ i c, cs[i]? = some c → stepsC M i = some c
theorem Hist.uniq {M : Mach} {k : Nat} {cs cs' : List Cfg} (a : Hist M k cs) (b : Hist M k cs') : cs = cs' := by
  refine List.ext_getElem? fun i => ?_
  by_cases l : i < k + 1
  · have h1 : cs[i]? = some _ := List.getElem?_eq_getElem (by rw [a.1]; exact l)
    have h2 : cs'[i]? = some _ := List.getElem?_eq_getElem (by rw [b.1]; exact l)
    have e1 := a.2 i _ h1
    have e2 := b.2 i _ h2
    rw [e1] at e2
    rw [h1, h2, e2]
  · rw [List.getElem?_eq_none_iff.mpr (by rw [a.1]; omega), List.getElem?_eq_none_iff.mpr (by rw [b.1]; omega)]
theorem Hist.one {M : Mach} : Hist M 0 [c0] := ⟨rfl, fun i c h => by
  cases i with
  | zero => cases h; rfl
  | succ n => cases h⟩
theorem Hist.app {M : Mach} {k : Nat} {cs : List Cfg} {c : Cfg} (h : Hist M k cs) (e : stepsC M (k + 1) = some c) : Hist M (k + 1) (cs ++ [c]) := by
  refine ⟨by rw [List.length_append, h.1]; rfl, fun i b hb => ?_⟩
  rcases get_snoc hb with ⟨_, hb⟩ | ⟨rfl, rfl⟩
  · exact h.2 i b hb
  · rw [h.1]; exact e
theorem Hist.last {M : Mach} {k : Nat} {cs : List Cfg} {c : Cfg} (h : Hist M k cs) (e : stepsC M k = some c) : cs[k]? = some c := by
  have h1 : cs[k]? = some _ := List.getElem?_eq_getElem (by rw [h.1]; omega)
  have e1 := h.2 k _ h1
  rw [e] at e1
  rw [h1, ← e1]
def suOf (c : Cfg) : Setup := ⟨c.r, c.s, told c.l⟩
/-- a told list of setups, of which nothing is anybody else's -/
structure SeO (H F1 H1 : Hp) (D : Addr) (us ps : List Addr) (yss : List (List V)) (cs : List Cfg) : Prop where
  ow : Ow H F1 H1 D (.lst (us.map V.ref))
  l1 : us.length = cs.length
  l2 : ps.length = cs.length
  l3 : yss.length = cs.length
  tup : ∀ (i : Nat) u p c, us[i]? = some u → ps[i]? = some p → cs[i]? = some c → F1 u = some (.tup [.int c.r, .int c.s, .ref p])
  lst : ∀ (i : Nat) p ys, ps[i]? = some p → yss[i]? = some ys → Ow H F1 H1 p (.lst ys)
  dat : ∀ (i : Nat) ys c, yss[i]? = some ys → cs[i]? = some c → IsAll F1 ys (told c.l)
  nd : ps.Nodup
  ne : D ∉ ps
section
variable {mu : Addr → Prop} {H F H1 F1 H2 F2 : Hp} {D : Addr} {us ps : List Addr} {yss : List (List V)} {cs : List Cfg}
theorem SeO.list (x : SeO H F1 H1 D us ps yss cs) {p : Addr} (h : p ∈ ps) : ∃ ys, Ow H F1 H1 p (.lst ys) := by
  obtain ⟨i, hi⟩ := List.getElem?_of_mem h
  have l := (List.getElem?_eq_some_iff.mp hi).1
  exact ⟨_, x.lst i p _ hi (List.getElem?_eq_getElem (by rw [x.l3, ← x.l2]; exact l))⟩
theorem SeO.gr (x : SeO H F1 H1 D us ps yss cs) (g : Gr mu F1 H1 F2 H2) (k : ∀ c, mu c → c ≠ D ∧ c ∉ ps) : SeO H F2 H2 D us ps yss cs where
  ow := x.ow.call g fun z => (k D z).1 rfl
  l1 := x.l1
  l2 := x.l2
  l3 := x.l3
  tup := fun i u p c h1 h2 h3 => g.ff _ _ (x.tup i u p c h1 h2 h3)
  lst := fun i p ys h1 h2 => (x.lst i p ys h1 h2).call g fun z => (k p z).2 (List.mem_of_getElem? h1)
  dat := fun i ys c h1 h2 => (x.dat i ys c h1 h2).up g.ff
  nd := x.nd
  ne := x.ne
theorem SeO.off (x : SeO H F1 H1 D us ps yss cs) {c : Addr} {o : HO} (h : H1 c = some o) (k : ∀ xs, o ≠ .lst xs) : c ≠ D ∧ c ∉ ps := by
  refine ⟨fun z => ?_, fun z => ?_⟩
  · rw [z, x.ow.h] at h; cases h; exact k _ rfl
  · obtain ⟨ys, w⟩ := x.list z
    rw [w.h] at h; cases h; exact k _ rfl
theorem SeO.offn (x : SeO H F1 H1 D us ps yss cs) {c : Addr} (h : H1 c = none) : c ≠ D ∧ c ∉ ps := by
  refine ⟨fun z => ?_, fun z => ?_⟩
  · rw [z, x.ow.h] at h; cases h
  · obtain ⟨ys, w⟩ := x.list z
    rw [w.h] at h; cases h
theorem SeO.app (x : SeO H F1 H1 D us ps yss cs) {u p : Addr} {ys : List V} {c : Cfg} (hu : F1 u = some (.tup [.int c.r, .int c.s, .ref p])) (w : Ow H F1 H1 p (.lst ys)) (k : p ≠ D ∧ p ∉ ps) (al : IsAll F1 ys (told c.l)) :
    SeO H F1 (upd H1 D (.lst ((us ++ [u]).map V.ref))) D (us ++ [u]) (ps ++ [p]) (yss ++ [ys]) (cs ++ [c]) where
  ow := x.ow.set
  l1 := by rw [List.length_append, List.length_append, x.l1]; rfl
  l2 := by rw [List.length_append, List.length_append, x.l2]; rfl
  l3 := by rw [List.length_append, List.length_append, x.l3]; rfl
  tup := fun i u' p' c' h1 h2 h3 => by
    have := x.l1; have := x.l2
    rcases get_snoc h1 with ⟨_, h1⟩ | ⟨e1, rfl⟩
    · rcases get_snoc h2 with ⟨_, h2⟩ | ⟨e2, rfl⟩
      · rcases get_snoc h3 with ⟨_, h3⟩ | ⟨e3, rfl⟩
        · exact x.tup i u' p' c' h1 h2 h3
        · omega
      · omega
    · rcases get_snoc h2 with ⟨_, h2⟩ | ⟨e2, rfl⟩
      · omega
      · rcases get_snoc h3 with ⟨_, h3⟩ | ⟨e3, rfl⟩
        · omega
        · exact hu
  lst := fun i p' ys' h1 h2 => by
    have := x.l2; have := x.l3
    rcases get_snoc h1 with ⟨_, h1⟩ | ⟨e1, rfl⟩
    · rcases get_snoc h2 with ⟨_, h2⟩ | ⟨e2, rfl⟩
      · exact (x.lst i p' ys' h1 h2).other fun z => x.ne (by rw [← z]; exact List.mem_of_getElem? h1)
      · omega
    · rcases get_snoc h2 with ⟨_, h2⟩ | ⟨e2, rfl⟩
      · omega
      · exact w.other k.1
  dat := fun i ys' c' h1 h2 => by
    have := x.l3
    rcases get_snoc h1 with ⟨_, h1⟩ | ⟨e1, rfl⟩
    · rcases get_snoc h2 with ⟨_, h2⟩ | ⟨e2, rfl⟩
      · exact x.dat i ys' c' h1 h2
      · omega
    · rcases get_snoc h2 with ⟨_, h2⟩ | ⟨e2, rfl⟩
      · omega
      · exact al
  nd := nd_snoc x.nd k.2
  ne := fun z => by
    rcases List.mem_append.mp z with z | z
    · exact x.ne z
    · exact k.1 (List.mem_singleton.mp z).symm
theorem SeO.nil (w : Ow H F1 H1 D (.lst [])) : SeO H F1 H1 D [] [] [] [] :=
  ⟨w, rfl, rfl, rfl, (fun i u p c h => by cases h), (fun i p ys h => by cases h), (fun i ys c h => by cases h), List.nodup_nil, fun z => nomatch z⟩
/-- as it is read -/
theorem SeO.is (x : SeO H F1 H1 D us ps yss cs) (s : Same F1 H1) : Is H1 (.ref D) (cs.map suOf) := by
  refine ⟨D, _, rfl, x.ow.h, by rw [List.length_map, List.length_map, x.l1], fun i v d h1 h2 => ?_⟩
  rw [List.getElem?_map] at h1 h2
  cases hu : us[i]? with
  | none => rw [hu] at h1; cases h1
  | some u =>
    cases hc : cs[i]? with
    | none => rw [hc] at h2; cases h2
    | some c =>
      rw [hu] at h1; rw [hc] at h2
      cases h1; cases h2
      have l := (List.getElem?_eq_some_iff.mp hc).1
      have hp : ps[i]? = some _ := List.getElem?_eq_getElem (by rw [x.l2]; exact l)
      have hy : yss[i]? = some _ := List.getElem?_eq_getElem (by rw [x.l3]; exact l)
      exact ⟨u, _, _, _, rfl, s _ _ (x.tup i u _ c hu hp hc), rfl, rfl, _, _, rfl, (x.lst i _ _ hp hy).h, (x.dat i _ c hy hc).up s⟩
end
def sp_setups : Sp := fun vs H Q _ => ∃ (F : Hp) (m : V) (M : Mach) (R S n : Nat), vs = [m, .int n] ∧ Same F H ∧ Is F m M ∧ MOk M R S ∧ n ≤ 5000 ∧
  ∀ (F' H' : Hp) (D : Addr) (us ps : List Addr) (yss : List (List V)) (cs : List Cfg) (k : Nat) (c : Cfg), Gr mu0 F H F' H' → Gone M n k c → Hist M k cs → SeO H F' H' D us ps yss cs → Q (.ref D) H'
theorem ok_setups (t : Tx K mg) : FnOk P w K mg base CX0 4 t.a_setups t.fd_setups ["machine", "most"] sp_setups := by
  refine t.F_setups.ok sc_setups (fun vs H Q E h => ?_) (fun cdv A outer s H vs Q E hr h => ?_)
  · obtain ⟨F, m, M, R, S, n, rfl, _⟩ := h
    rfl
  · obtain ⟨F, m, M, R, S, n, rfl, sF, hm, hM, hn, q⟩ := h
    refine ⟨_, (pss_cons (ps_expr (pe_call (ok_must_machine t) (hr.mono (by decide)) (by rfl) t.m_must_machine t.F_must_machine.kp t.b_must_machine .nil pass0 (pa_cons (pv 0) pa_nil)))
      (pss_cons (ps_set (i := 2) sc_setups.nd rfl (by first | exact Or.inl rfl | exact Or.inr rfl) (pe_make t.M_Goer (ok_Goer_init t) (hr.mono (by decide)) (by rfl) t.m_Goer t.b_Goer_init .nil pass0 (pa_cons (pv 0) (pa_cons (pe_tup (pa_cons pe_int (pa_cons pe_int (pa_cons (pe_lst pa_nil) pa_nil)))) pa_nil))))
      (pss_cons (ps_set (i := 3) sc_setups.nd rfl (by first | exact Or.inl rfl | exact Or.inr rfl) (pe_lst (pa_cons (pe_meth0 (pv 2) t.cl_Goer t.M_Goer_setup (ok_Goer_setup t) (hr.mono (by decide)) t.b_Goer_setup .nil pass0) pa_nil)))
      (pss_cons (ps_while PassesOwn.never (PW.pt (pw_and (pt_cmpR op_lt (pe_fld (pv 2) rfl) (pv 1) (nomark _)) (pw_and1 (pt_val (pe_meth0 (pv 2) t.cl_Goer t.M_Goer_step (ok_Goer_step t) (hr.mono (by decide)) t.b_Goer_step .nil pass0))))) (pss_one (ps_expr (pe_bm PySem.F.plainAttrs_list PySem.F.slot_list_append PySem.F.type_list_append mt_append (pv 3) (pa_cons (pe_meth0 (pv 2) t.cl_Goer t.M_Goer_setup (ok_Goer_setup t) (hr.mono (by decide)) t.b_Goer_setup .nil pass0) pa_nil)))))
      (pss_one (ps_ret (pv 3))))))), ?_⟩
    refine ⟨_, rfl, F, m, M, R, S, rfl, sF, hm, hM, fun Ha ga0 => ?_⟩
    -- walk = Goer(machine, (0, 0, []))
    refine ⟨_, rfl, nil_le, fun l nl => ⟨three_le, fun u nu => ?_⟩⟩
    have g1 := ga0.new (o := .lst []) nl
    have g2 := g1.new (o := .tup [.int 0, .int 0, .ref l]) nu
    have hx : Is (upd (upd F l (.lst [])) u (.tup [.int 0, .int 0, .ref l])) (.ref u) (⟨0, 0, []⟩ : Setup) := ⟨u, _, _, _, rfl, upd_same, rfl, rfl, l, [], rfl, ln (g1.fh.free nu) upd_same, All2.nil⟩
    generalize upd (upd F l (.lst [])) u (.tup [.int 0, .int 0, .ref l]) = F2 at g2 hx
    generalize upd (upd Ha l (.lst [])) u (.tup [.int 0, .int 0, .ref l]) = H2 at g2
    refine fun y dy ny ndy ney => ?_
    have g3 := g2.own (o := .own y) ndy
    have ny2 : (upd H2 dy (.own y)) y = none := by rw [upd_ne ney.symm]; exact ny
    have g4 := g3.own (o := .ins t.C_Goer dy []) ny2
    have hy : H y = none := g2.th _ ny
    have fy : F2 y = none := g2.fh.free ny
    refine ⟨F2, y, dy, m, .ref u, _, rfl, upd_same, fy, g4.fh, hx, fun d H5 nd5 g5 ga => ⟨rfl, ?_⟩⟩
    have g6 := g4.thn g5 fun c z => .inr (by rw [show c = y from z]; exact hy)
    have hd : H d = none := g4.th _ nd5
    have fd : F2 d = none := g4.fh.free nd5
    have hm2 := hm.up g2.ff
    -- found = [walk.setup()]
    obtain ⟨⟨dx, ho⟩, hdc⟩ := id ga
    refine ⟨_, rfl, y, dx, _, rfl, ho, Goer_no (by decide +kernel) (by decide +kernel) (by decide +kernel) (by decide +kernel) (by decide +kernel), F2, y, d, m, 0, 0, [], 0, rfl, g6.fh, ga, Nat.zero_le _, fun F7 H7 p u7 xs g7 wp al wu => ⟨one_le, fun D nD => ?_⟩⟩
    have g67 := g6.trans g7
    have fy7 := g7.pf fy ho
    have fd7 := g7.pf fd hdc
    have ga7 := ga.gr g7 (fun z => z) (fun z => z)
    have pu : p ≠ u7 := ne_of wp.h wu.h (by intro z; cases z)
    have g8 := g67.frz wu.h (g6.th _ wu.n) wu.f
    have wp8 : Ow H (upd F7 u7 (.tup [.int 0, .int 0, .ref p])) H7 p (.lst xs) := ⟨g6.th _ wp.n, by rw [upd_ne pu]; exact wp.f, wp.h⟩
    have s78 : Same F7 (upd F7 u7 (.tup [.int 0, .int 0, .ref p])) := sm_new (Same.refl F7) wu.f
    obtain ⟨⟨dx7, ho7⟩, hdc7⟩ := id ga7
    have yu : y ≠ u7 := ne_of ho7 wu.h (by intro z; cases z)
    have du : d ≠ u7 := ne_of hdc7 wu.h (by intro z; cases z)
    have fu8 : (upd F7 u7 (.tup [.int 0, .int 0, .ref p])) u7 = some (.tup [.int 0, .int 0, .ref p]) := upd_same
    have fy8 : (upd F7 u7 (.tup [.int 0, .int 0, .ref p])) y = none := by rw [upd_ne yu]; exact fy7
    have fd8 : (upd F7 u7 (.tup [.int 0, .int 0, .ref p])) d = none := by rw [upd_ne du]; exact fd7
    have al8 := al.up s78
    have hm8 := (hm2.up g7.ff).up s78
    generalize upd F7 u7 (.tup [.int 0, .int 0, .ref p]) = F8 at g8 wp8 s78 fu8 fy8 fd8 al8 hm8
    have x0 : SeO H F8 (upd (upd H7 D (.lst [])) D (.lst (([] ++ [u7]).map V.ref))) D ([] ++ [u7]) ([] ++ [p]) ([] ++ [xs]) ([] ++ [c0]) := SeO.app (SeO.nil (Ow.mk1 g8 nD)) fu8 (wp8.own nD) ⟨wp8.ne nD, fun z => nomatch z⟩ al8
    have e0 : upd (upd H7 D (.lst [])) D (.lst (([] ++ [u7]).map V.ref)) = upd H7 D (.lst [.ref u7]) := by
      funext c
      by_cases e : c = D
      · rw [e, upd_same, upd_same]; rfl
      · rw [upd_ne e, upd_ne e, upd_ne e]
    rw [e0] at x0
    have g9 := g8.own (o := .lst [.ref u7]) nD
    have ga9 := ga7.gr (mu := mu0) ((Gr.refl g8.fh).own (o := .lst [.ref u7]) nD) (fun z => z) (fun z => z)
    -- while walk.steps < most and walk.step()
    refine ⟨fun k σ G => ∃ (F1 : Hp) (j : Nat) (c : Cfg) (us ps : List Addr) (yss : List (List V)) (cs : List Cfg), k = n - j ∧ σ = [some m, some (.int n), some (.ref y), some (.ref D)] ∧ Gr mu0 F H F1 G ∧ F1 y = none ∧ F1 d = none ∧ Same F8 F1 ∧ GoAt t.C_Goer G y d m c.r c.s c.l j ∧ stepsC M j = some c ∧ j ≤ n ∧ Hist M j cs ∧ SeO H F1 G D us ps yss cs,
      ⟨_, F8, 0, c0, _, _, _, _, rfl, rfl, g9, fy8, fd8, Same.refl _, ga9, rfl, Nat.zero_le _, Hist.one, x0⟩, ?_⟩
    rintro k σ G ⟨F1, j, c, us, ps, yss, cs, rfl, rfl, g, fy, fd, s2, ga, st, lj, hi, x⟩
    obtain ⟨ok, ll⟩ := stepsC_ok hM st
    have hm1 := hm8.up s2
    obtain ⟨row, er, s0, ee, eo⟩ := ok.ent hM
    obtain ⟨⟨dx, ho⟩, hdc⟩ := id ga
    refine ⟨_, rfl, y, t.C_Goer, dx, _, _, rfl, ho, t.cl_Goer, t.nA_Goer_steps, Goer_get_steps, _, rfl, _, _, rfl, rfl, _, rfl, ?_⟩
    refine ite2 (fun cl => ?_) (fun cl => ?_)
    · have cl : (j : Int) < n := of_decide_eq_true cl
      refine ⟨_, rfl, y, dx, _, rfl, ho, Goer_no (by decide +kernel) (by decide +kernel) (by decide +kernel) (by decide +kernel) (by decide +kernel), F1, y, d, m, M, c.r, c.s, c.l, j, row, entOf M c, rfl, g.fh, fy, fd, hm1, ga, ok.r0, er, s0, ee, by omega, fun he H6 g6 => ⟨_, rfl, iteF ?_⟩, fun p w r' he H6 g6 gb => ⟨_, rfl, iteT ?_⟩⟩
      · refine ⟨_, rfl, ?_⟩
        exact q F1 H6 D us ps yss cs j c (g.trans g6) ⟨lj, st, .inl (stepC_none.mpr he)⟩ hi (x.gr g6 fun c z => z.elim)
      · refine ⟨_, fun _ _ h => h, ?_⟩
        have st1 := stepC_go he
        have st2 := (stepsC_next st).trans st1
        have offy := x.off ho (fun xs z => by cases z)
        have offd := x.off hdc (fun xs z => by cases z)
        have x6 := x.gr g6 fun c z => by rcases z with rfl | rfl <;> assumption
        have g16 := g.thn g6 (fun c z => .inr (by rcases z with rfl | rfl <;> assumption))
        obtain ⟨⟨dx6, ho6⟩, hdc6⟩ := id gb
        -- found.append(walk.setup())
        refine ⟨_, rfl, .inl ⟨rfl, _, SqL.of x6.ow.h⟩, _, rfl, y, dx6, _, rfl, ho6, Goer_no (by decide +kernel) (by decide +kernel) (by decide +kernel) (by decide +kernel) (by decide +kernel), F1, y, d, m, r', c.s + w, put c.l c.s p, j + 1, rfl, g16.fh, gb, by have := put_len c.l c.s p; omega, fun F7 H7 p7 u7 xs g7 wp al wu => ?_⟩
        have x7 := x6.gr g7 fun c z => z.elim
        have g17 := g16.trans g7
        have fy7 := g7.pf fy ho6
        have fd7 := g7.pf fd hdc6
        have ga7 := gb.gr g7 (fun z => z) (fun z => z)
        have pu : p7 ≠ u7 := ne_of wp.h wu.h (by intro z; cases z)
        have k8 := (Gr.refl (mu := mu0) g7.fh)
        have nu : H u7 = none := g16.th _ wu.n
        have g8 := g17.frz wu.h nu wu.f
        have wp8 : Ow H (upd F7 u7 (.tup [.int r', .int (c.s + w), .ref p7])) H7 p7 (.lst xs) := ⟨g16.th _ wp.n, by rw [upd_ne pu]; exact wp.f, wp.h⟩
        have s78 : Same F7 (upd F7 u7 (.tup [.int r', .int (c.s + w), .ref p7])) := sm_new (Same.refl F7) wu.f
        have offu := x6.offn wu.n
        have offp := x6.offn wp.n
        obtain ⟨⟨dx7, ho7⟩, hdc7⟩ := id ga7
        have yu : y ≠ u7 := ne_of ho7 wu.h (by intro z; cases z)
        have du : d ≠ u7 := ne_of hdc7 wu.h (by intro z; cases z)
        have x8 : SeO H (upd F7 u7 (.tup [.int r', .int (c.s + w), .ref p7])) H7 D us ps yss cs := by
          refine ⟨⟨x7.ow.n, by rw [upd_ne offu.1.symm]; exact x7.ow.f, x7.ow.h⟩, x7.l1, x7.l2, x7.l3, fun i u p c h1 h2 h3 => s78 _ _ (x7.tup i u p c h1 h2 h3), fun i p ys h1 h2 => ?_, fun i ys c h1 h2 => (x7.dat i ys c h1 h2).up s78, x7.nd, x7.ne⟩
          have w := x7.lst i p ys h1 h2
          exact ⟨w.n, by rw [upd_ne (fun z => offu.2 (by rw [← z]; exact List.mem_of_getElem? h1))]; exact w.f, w.h⟩
        refine ⟨D, _, _, rfl, rfl, x8.ow.h, ?_, ?_⟩
        · rw [List.length_map, x.l1, hi.1]; exact lt_size (by omega)
        · have fu8 : (upd F7 u7 (.tup [.int r', .int (c.s + w), .ref p7])) u7 = some (.tup [.int r', .int (c.s + w), .ref p7]) := upd_same
          have x9 := x8.app (c := ⟨r', c.s + w, put c.l c.s p⟩) fu8 wp8 offp (al.up s78)
          have e9 : us.map V.ref ++ [V.ref u7] = (us ++ [u7]).map V.ref := by rw [List.map_append]; rfl
          rw [e9]
          have g9 := g8.set (o := .lst ((us ++ [u7]).map V.ref)) x8.ow.f (.inl x8.ow.n)
          have nyD : y ≠ D := offy.1
          have ndD : d ≠ D := offd.1
          refine ⟨n - (j + 1), by omega, _, j + 1, ⟨r', c.s + w, put c.l c.s p⟩, _, _, _, _, rfl, rfl, g9, by rw [upd_ne yu]; exact fy7, by rw [upd_ne du]; exact fd7, (fun c o h => s78 _ _ (g7.ff _ _ (s2 _ _ h))), ⟨⟨dx7, (upd_ne nyD).trans ho7⟩, (upd_ne ndD).trans hdc7⟩, st2, by omega, hi.app st2, x9⟩
    · have cl : ¬ (j : Int) < n := fun z => cl (decide_eq_true z)
      refine ifF rfl ⟨_, rfl, ?_⟩
      exact q F1 G D us ps yss cs j c g ⟨lj, st, .inr (by omega)⟩ hi x
/-! ### logs -/
theorem L3_rows {a b c : V} : ([("rows", a), ("places", b), ("strips", c)] : List (Str × V)).lookup ("rows" : Str) = some a := by
  rw [List.lookup_cons, beq_self_eq_true]
theorem L3_places {a b c : V} : ([("rows", a), ("places", b), ("strips", c)] : List (Str × V)).lookup ("places" : Str) = some b := by
  rw [List.lookup_cons, beq_eq_false_iff_ne.mpr ne_Log_places_rows]
  show List.lookup ("places" : Str) [(("places" : Str), b), ("strips", c)] = _
  rw [List.lookup_cons, beq_self_eq_true]
theorem L3_strips {a b c : V} : ([("rows", a), ("places", b), ("strips", c)] : List (Str × V)).lookup ("strips" : Str) = some c := by
  rw [List.lookup_cons, beq_eq_false_iff_ne.mpr ne_Log_strips_rows]
  show List.lookup ("strips" : Str) [(("places" : Str), b), ("strips", c)] = _
  rw [List.lookup_cons, beq_eq_false_iff_ne.mpr ne_Log_strips_places]
  show List.lookup ("strips" : Str) [(("strips" : Str), c)] = _
  rw [List.lookup_cons, beq_self_eq_true]
theorem ZRel.filt {l : List PI} (h : Nd l) : ZRel l (l.filter nz) := by
  refine ⟨h, List.Sublist.nodup (List.Sublist.map _ List.filter_sublist) h, fun q m => of_decide_eq_true (List.mem_filter.mp m).2, fun x => ?_⟩
  have hf : Nd (l.filter nz) := List.Sublist.nodup (List.Sublist.map _ List.filter_sublist) h
  cases e : look (l.filter nz) x with
  | some v =>
    have m := (List.mem_filter.mp (mem_look e)).1
    rw [show look l x = some v from look_mem h m]
  | none =>
    cases f : look l x with
    | none => rfl
    | some v =>
      by_cases z : v = 0
      · rw [z]; rfl
      · have m : (⟨x, v⟩ : PI) ∈ l.filter nz := List.mem_filter.mpr ⟨mem_look f, decide_eq_true z⟩
        rw [show look (l.filter nz) x = some v from look_mem hf m] at e
        cases e
/-- the strips of a log -/
def StripsAt (F : Hp) (ts : List V) (cs : List Cfg) : Prop := All2 (fun v c => ∃ d l', v = .ref d ∧ F d = some (.dK (dI l')) ∧ ZRel c.l l') ts cs
theorem StripsAt.up {F F' : Hp} {ts : List V} {cs : List Cfg} (h : StripsAt F ts cs) (s : Same F F') : StripsAt F' ts cs :=
  h.imp fun v c ⟨d, l', e, h1, h2⟩ => ⟨d, l', e, s _ _ h1, h2⟩
structure LogAt (C : Addr) (F H : Hp) (lg R P T : Addr) (cs : List Cfg) (b : Bool) : Prop where
  ob : ∃ dx, H lg = some (.ins C dx (Log_F (.ref R) (.ref P) (.ref T) (.bl b)))
  rw : F R = some (.lst (cs.map fun c => V.int c.r))
  pl : F P = some (.lst (cs.map fun c => V.int c.s))
  st : ∃ ts, F T = some (.lst ts) ∧ StripsAt F ts cs
def sp_Log_init (C : Addr) : Sp := fun vs H Q _ => ∃ (F : Hp) (g dx : Addr) (m : V) (M : Mach) (R S n : Nat), vs = [.ref g, m, .int n] ∧ H g = some (.ins C dx []) ∧ F g = none ∧ Same F H ∧ Is F m M ∧ MOk M R S ∧ n ≤ 5000 ∧
  ∀ (F' H' : Hp) (Ra Pa Ta : Addr) (k : Nat) (c : Cfg) (cs : List Cfg), Gr (muP g) F H F' H' → F' g = none → Gone M n k c → Hist M k cs → LogAt C F' H' g Ra Pa Ta cs (decide (entOf M c = Ent.emp)) → Q .non H'
theorem ok_Log_init (t : Tx K mg) : FnOk P w K mg base CX0 3 t.a_Log_init t.fd_Log_init ["self", "machine", "most"] (sp_Log_init t.C_Log) := by
  refine t.F_Log_init.ok sc_Log_init (fun vs H Q E h => ?_) (fun cdv A outer s H vs Q E hr h => ?_)
  · obtain ⟨F, g, dx, m, M, R, S, n, rfl, _⟩ := h
    rfl
  · obtain ⟨F, lg, dl, m, M, R, S, n, rfl, hlg, fg, sF, hm, hM, hn, q⟩ := h
    refine ⟨_, (pss_cons (ps_set (i := 3) sc_Log_init.nd rfl (by first | exact Or.inl rfl | exact Or.inr rfl) (pe_make t.M_Goer (ok_Goer_init t) (hr.mono (by decide)) (by rfl) t.m_Goer t.b_Goer_init .nil pass0 (pa_cons (pv 1) (pa_cons (pe_tup (pa_cons pe_int (pa_cons pe_int (pa_cons (pe_lst pa_nil) pa_nil)))) pa_nil))))
      (pss_cons (ps_fld (pv 0) (pe_lst (pa_cons (pe_fld (pv 3) rfl) pa_nil)) rfl)
      (pss_cons (ps_fld (pv 0) (pe_lst (pa_cons (pe_fld (pv 3) rfl) pa_nil)) rfl)
      (pss_cons (ps_fld (pv 0) (pe_lst (pa_cons pe_dnewK pa_nil)) rfl)
      (pss_cons (ps_set (i := 4) sc_Log_init.nd rfl (by first | exact Or.inl rfl | exact Or.inr rfl) pe_bl)
      (pss_cons (ps_while PassesOwn.never (PW.pt (pw_and (pt_val (pv 4)) (pw_and1 (pt_cmpR op_lt (pe_fld (pv 3) rfl) (pv 2) (nomark _))))) (pss_cons (ps_set (i := 4) sc_Log_init.nd rfl (by first | exact Or.inl rfl | exact Or.inr rfl) (pe_meth0 (pv 3) t.cl_Goer t.M_Goer_step (ok_Goer_step t) (hr.mono (by decide)) t.b_Goer_step .nil pass0))
      (pss_one (ps_if (pt_val (pv 4)) (pss_cons (ps_expr (pe_bm PySem.F.plainAttrs_list PySem.F.slot_list_append PySem.F.type_list_append mt_append (pe_fld (pv 0) rfl) (pa_cons (pe_fld (pv 3) rfl) pa_nil)))
      (pss_cons (ps_expr (pe_bm PySem.F.plainAttrs_list PySem.F.slot_list_append PySem.F.type_list_append mt_append (pe_fld (pv 0) rfl) (pa_cons (pe_fld (pv 3) rfl) pa_nil)))
      (pss_one (ps_expr (pe_bm PySem.F.plainAttrs_list PySem.F.slot_list_append PySem.F.type_list_append mt_append (pe_fld (pv 0) rfl) (pa_cons (pe_call (ok_plain t) (hr.mono (by decide)) (by rfl) t.m_plain t.F_plain.kp t.b_plain .nil pass0 (pa_cons (pe_fld (pv 3) rfl) pa_nil)) pa_nil)))))) pss_nil))))
      (pss_one (ps_fld (pv 0) (pe_cmpR (op_eqD hr.units) (pe_meth0 (pv 3) t.cl_Goer t.M_Goer_entry (ok_Goer_entry t) (hr.mono (by decide)) t.b_Goer_entry .nil pass0) (pe_tup pa_nil) (nomark _)) rfl)))))))), ?_⟩
    have g0 : Gr (muP lg) F H F H := Gr.refl sF
    -- walk = Goer(machine, (0, 0, []))
    refine ⟨_, rfl, nil_le, fun l nl => ⟨three_le, fun u nu => ?_⟩⟩
    have g1 := g0.new (o := .lst []) nl
    have g2 := g1.new (o := .tup [.int 0, .int 0, .ref l]) nu
    have hx : Is (upd (upd F l (.lst [])) u (.tup [.int 0, .int 0, .ref l])) (.ref u) (⟨0, 0, []⟩ : Setup) := ⟨u, _, _, _, rfl, upd_same, rfl, rfl, l, [], rfl, ln (g1.fh.free nu) upd_same, All2.nil⟩
    have hlg2 := ln (u := .tup [.int 0, .int 0, .ref l]) nu (ln (u := .lst []) nl hlg)
    have fg2 := g2.pf fg hlg
    generalize upd (upd F l (.lst [])) u (.tup [.int 0, .int 0, .ref l]) = F2 at g2 hx fg2
    generalize upd (upd H l (.lst [])) u (.tup [.int 0, .int 0, .ref l]) = H2 at g2 hlg2
    refine fun y dy ny ndy ney => ?_
    have g3 := g2.own (o := .own y) ndy
    have ny2 : (upd H2 dy (.own y)) y = none := by rw [upd_ne ney.symm]; exact ny
    have g4 := g3.own (o := .ins t.C_Goer dy []) ny2
    have hlg4 := ln (u := .ins t.C_Goer dy []) ny2 (ln (u := .own y) ndy hlg2)
    have hy : H y = none := g2.th _ ny
    have fy : F2 y = none := g2.fh.free ny
    have lgy : lg ≠ y := fun z => by rw [z, hy] at hlg; cases hlg
    refine ⟨F2, y, dy, m, .ref u, _, rfl, upd_same, fy, g4.fh, hx, fun d H5 nd5 g5 ga => ⟨rfl, ?_⟩⟩
    have g6 := g4.thn g5 fun c z => .inr (by rw [show c = y from z]; exact hy)
    have hlg6 := g5.fr _ _ hlg4 lgy
    have hd : H d = none := g4.th _ nd5
    have fd : F2 d = none := g4.fh.free nd5
    have hm2 := hm.up g2.ff
    have lgd : lg ≠ d := fun z => by rw [z, hd] at hlg; cases hlg
    -- self.rows = [walk.row]
    obtain ⟨⟨dx, ho⟩, hdc⟩ := id ga
    refine ⟨_, rfl, y, t.C_Goer, dx, _, _, rfl, ho, t.cl_Goer, t.nA_Goer_row, Goer_get_row, one_le, fun Ra nRa => ⟨_, rfl, lg, t.C_Log, dl, [], rfl, ln nRa hlg6, t.cl_Log, t.nA_Log_rows, by show 0 < 1000; decide, ?_⟩⟩
    rw [Log_mk0]
    have g7 := (g6.own (o := .lst [.int 0]) nRa).set (o := .ins t.C_Log dl [("rows", .ref Ra)]) fg2 (.inr rfl)
    have wR : Ow H F2 (upd H5 Ra (.lst [.int 0])) Ra (.lst [.int 0]) := Ow.mk1 g6 nRa
    have lgR : lg ≠ Ra := ne_of_none hlg6 nRa
    have wR := wR.other (u := .ins t.C_Log dl [("rows", .ref Ra)]) lgR.symm
    have ga7 : GoAt t.C_Goer _ y d m 0 0 [] 0 := ⟨⟨dx, (upd_ne (o := .ins t.C_Log dl [("rows", .ref Ra)]) lgy.symm).trans (ln (u := .lst [.int 0]) nRa ho)⟩, (upd_ne lgd.symm).trans (ln nRa hdc)⟩
    have hlg7 : (upd (upd H5 Ra (.lst [.int 0])) lg (.ins t.C_Log dl [("rows", .ref Ra)])) lg = some (.ins t.C_Log dl [("rows", .ref Ra)]) := upd_same
    generalize upd (upd H5 Ra (.lst [.int 0])) lg (.ins t.C_Log dl [("rows", .ref Ra)]) = H7 at g7 wR ga7 hlg7
    obtain ⟨⟨dx7, ho7⟩, hdc7⟩ := id ga7
    -- self.places = [walk.spot]
    refine ⟨_, rfl, y, t.C_Goer, dx7, _, _, rfl, ho7, t.cl_Goer, t.nA_Goer_spot, Goer_get_spot, one_le, fun Pa nPa => ⟨_, rfl, lg, t.C_Log, dl, _, rfl, ln nPa hlg7, t.cl_Log, t.nA_Log_places, by show 1 < 1000; decide, ?_⟩⟩
    rw [Log_mk1]
    have g8 := (g7.own (o := .lst [.int 0]) nPa).set (o := .ins t.C_Log dl [("rows", .ref Ra), ("places", .ref Pa)]) fg2 (.inr rfl)
    have wP : Ow H F2 (upd H7 Pa (.lst [.int 0])) Pa (.lst [.int 0]) := Ow.mk1 g7 nPa
    have lgP : lg ≠ Pa := ne_of_none hlg7 nPa
    have RP : Ra ≠ Pa := wR.ne nPa
    have wP := wP.other (u := .ins t.C_Log dl [("rows", .ref Ra), ("places", .ref Pa)]) lgP.symm
    have wR := (wR.own (u := .lst [.int 0]) nPa).other (u := .ins t.C_Log dl [("rows", .ref Ra), ("places", .ref Pa)]) lgR.symm
    have ga8 : GoAt t.C_Goer _ y d m 0 0 [] 0 := ⟨⟨dx7, (upd_ne (o := .ins t.C_Log dl [("rows", .ref Ra), ("places", .ref Pa)]) lgy.symm).trans (ln (u := .lst [.int 0]) nPa ho7)⟩, (upd_ne lgd.symm).trans (ln nPa hdc7)⟩
    have hlg8 : (upd (upd H7 Pa (.lst [.int 0])) lg (.ins t.C_Log dl [("rows", .ref Ra), ("places", .ref Pa)])) lg = some (.ins t.C_Log dl [("rows", .ref Ra), ("places", .ref Pa)]) := upd_same
    generalize upd (upd H7 Pa (.lst [.int 0])) lg (.ins t.C_Log dl [("rows", .ref Ra), ("places", .ref Pa)]) = H8 at g8 wR wP ga8 hlg8
    -- self.strips = [{}]
    refine fun e0 ne0 => ⟨one_le, fun Ta nTa => ⟨_, rfl, lg, t.C_Log, dl, _, rfl, ln nTa (ln ne0 hlg8), t.cl_Log, t.nA_Log_strips, by show 2 < 1000; decide, ?_⟩⟩
    rw [Log_mk2]
    have g9 := g8.new (o := .dK []) ne0
    have lgT : lg ≠ Ta := ne_of_none (ln (u := .dK []) ne0 hlg8) nTa
    have wT : Ow H _ _ Ta (.lst [.ref e0]) := Ow.mk1 g9 nTa
    have RT : Ra ≠ Ta := (wR.new (u := .dK []) ne0).ne nTa
    have PT : Pa ≠ Ta := (wP.new (u := .dK []) ne0).ne nTa
    have g10 := (g9.own (o := .lst [.ref e0]) nTa).set (o := .ins t.C_Log dl [("rows", .ref Ra), ("places", .ref Pa), ("strips", .ref Ta)]) (by rw [upd_ne (ne_of_none hlg8 ne0)]; exact fg2) (.inr rfl)
    have wT := wT.other (u := .ins t.C_Log dl [("rows", .ref Ra), ("places", .ref Pa), ("strips", .ref Ta)]) lgT.symm
    have wR := ((wR.new (u := .dK []) ne0).own (u := .lst [.ref e0]) nTa).other (u := .ins t.C_Log dl [("rows", .ref Ra), ("places", .ref Pa), ("strips", .ref Ta)]) lgR.symm
    have wP := ((wP.new (u := .dK []) ne0).own (u := .lst [.ref e0]) nTa).other (u := .ins t.C_Log dl [("rows", .ref Ra), ("places", .ref Pa), ("strips", .ref Ta)]) lgP.symm
    obtain ⟨⟨dx8, ho8⟩, hdc8⟩ := id ga8
    have ga10 : GoAt t.C_Goer _ y d m 0 0 [] 0 := ⟨⟨dx8, (upd_ne (o := .ins t.C_Log dl [("rows", .ref Ra), ("places", .ref Pa), ("strips", .ref Ta)]) lgy.symm).trans (ln (u := .lst [.ref e0]) nTa (ln (u := .dK []) ne0 ho8))⟩, (upd_ne lgd.symm).trans (ln nTa (ln ne0 hdc8))⟩
    have hlg10 : (upd (upd (upd H8 e0 (.dK [])) Ta (.lst [.ref e0])) lg (.ins t.C_Log dl [("rows", .ref Ra), ("places", .ref Pa), ("strips", .ref Ta)])) lg = some (.ins t.C_Log dl [("rows", .ref Ra), ("places", .ref Pa), ("strips", .ref Ta)]) := upd_same
    have s2 : Same F2 (upd F2 e0 (.dK [])) := sm_new (Same.refl F2) (g8.fh.free ne0)
    have st0 : StripsAt (upd F2 e0 (.dK [])) [.ref e0] [c0] := All2.one ⟨e0, [], rfl, upd_same, ZRel.nil⟩
    have fy10 : (upd F2 e0 (.dK [])) y = none := by rw [upd_ne (ne_of_none ho8 ne0)]; exact fy
    have fd10 : (upd F2 e0 (.dK [])) d = none := by rw [upd_ne (ne_of_none hdc8 ne0)]; exact fd
    have fg10 : (upd F2 e0 (.dK [])) lg = none := by rw [upd_ne (ne_of_none hlg8 ne0)]; exact fg2
    generalize upd F2 e0 (.dK []) = F3 at g10 wT wR wP s2 st0 fy10 fd10 fg10
    generalize upd (upd (upd H8 e0 (.dK [])) Ta (.lst [.ref e0])) lg (.ins t.C_Log dl [("rows", .ref Ra), ("places", .ref Pa), ("strips", .ref Ta)]) = H10 at g10 wT wR wP ga10 hlg10
    -- while going and walk.steps < most
    refine ⟨fun k σ G => ∃ (F1 : Hp) (j : Nat) (c : Cfg) (b : Bool) (cs : List Cfg) (ts : List V), k = 2 * (n - j) + b.toNat ∧ σ = [some (.ref lg), some m, some (.int n), some (.ref y), some (.bl b)] ∧ Gr (muP lg) F H F1 G ∧ F1 lg = none ∧ F1 y = none ∧ F1 d = none ∧ Same F3 F1 ∧ G lg = some (.ins t.C_Log dl [("rows", .ref Ra), ("places", .ref Pa), ("strips", .ref Ta)]) ∧ GoAt t.C_Goer G y d m c.r c.s c.l j ∧ stepsC M j = some c ∧ j ≤ n ∧ (b = false → stepC M c = none) ∧ Hist M j cs ∧
        Ow H F1 G Ra (.lst (cs.map fun c => V.int c.r)) ∧ Ow H F1 G Pa (.lst (cs.map fun c => V.int c.s)) ∧ Ow H F1 G Ta (.lst ts) ∧ StripsAt F1 ts cs,
      ⟨_, F3, 0, c0, true, [c0], _, rfl, rfl, g10, fg10, fy10, fd10, Same.refl _, hlg10, ga10, rfl, Nat.zero_le _, (fun z => nomatch z), Hist.one, wR, wP, wT, st0⟩, ?_⟩
    rintro k σ G ⟨F1, j, c, b, cs, ts, rfl, rfl, g, fg, fy, fd, s3, hlg, ga, st, lj, hb, hh, wR, wP, wT, sa⟩
    obtain ⟨ok, ll⟩ := stepsC_ok hM st
    have hm1 := (hm2.up s2).up s3
    obtain ⟨row, er, s0, ee, eo⟩ := ok.ent hM
    obtain ⟨⟨dx, ho⟩, hdc⟩ := id ga
    have yR : Ra ≠ y := ne_of wR.h ho (by intro z; cases z)
    have yP : Pa ≠ y := ne_of wP.h ho (by intro z; cases z)
    have yT : Ta ≠ y := ne_of wT.h ho (by intro z; cases z)
    have dR : Ra ≠ d := ne_of wR.h hdc (by intro z; cases z)
    have dP : Pa ≠ d := ne_of wP.h hdc (by intro z; cases z)
    have dT : Ta ≠ d := ne_of wT.h hdc (by intro z; cases z)
    have lcs := hh.1
    have lts : ts.length = cs.length := sa.1
    -- what comes behind the loop
    have fin : ∀ G1, Gr mu0 F1 G F1 G1 → (stepC M c = none ∨ j = n) → ∀ H2 : Hp, H2 = upd G1 lg (.ins t.C_Log dl (Log_F (.ref Ra) (.ref Pa) (.ref Ta) (.bl (decide (entOf M c = Ent.emp))))) → Q .non H2 := by
      intro G1 k1 hend H2 eH
      have wR1 := wR.call k1 fun z => z
      have wP1 := wP.call k1 fun z => z
      have wT1 := wT.call k1 fun z => z
      have g1 := (g.trans (k1.weak (mu' := muP lg) fun c z => z.elim)).set (o := .ins t.C_Log dl (Log_F (.ref Ra) (.ref Pa) (.ref Ta) (.bl (decide (entOf M c = Ent.emp))))) fg (.inr rfl)
      obtain ⟨gz, sz⟩ := g1.frzS (fun c => c = Ra ∨ c = Pa ∨ c = Ta) fun c k => by
        rcases k with rfl | rfl | rfl
        · exact ⟨wR1.n, wR1.f⟩
        · exact ⟨wP1.n, wP1.f⟩
        · exact ⟨wT1.n, wT1.f⟩
      subst eH
      refine q _ _ Ra Pa Ta j c cs gz ?_ ⟨lj, st, hend⟩ hh ⟨⟨dl, upd_same⟩, (if_pos (.inl rfl)).trans ((upd_ne lgR.symm).trans wR1.h), (if_pos (.inr (.inl rfl))).trans ((upd_ne lgP.symm).trans wP1.h), ts, (if_pos (.inr (.inr rfl))).trans ((upd_ne lgT.symm).trans wT1.h), sa.up sz⟩
      exact (if_neg (fun z => by rcases z with z | z | z; exact lgR z; exact lgP z; exact lgT z)).trans fg
    refine ⟨_, rfl, _, rfl, ?_⟩
    refine ite2 (fun cb => ?_) (fun cb => ?_)
    · refine ⟨_, rfl, y, t.C_Goer, dx, _, _, rfl, ho, t.cl_Goer, t.nA_Goer_steps, Goer_get_steps, _, rfl, _, _, rfl, rfl, _, rfl, ?_⟩
      refine ite2 (fun cl => ?_) (fun cl => ?_)
      · have cl : (j : Int) < n := of_decide_eq_true cl
        refine ⟨_, fun _ _ h => h, ?_⟩
        refine ⟨_, rfl, y, dx, _, rfl, ho, Goer_no (by decide +kernel) (by decide +kernel) (by decide +kernel) (by decide +kernel) (by decide +kernel), F1, y, d, m, M, c.r, c.s, c.l, j, row, entOf M c, rfl, g.fh, fy, fd, hm1, ga, ok.r0, er, s0, ee, by omega, fun he H6 g6 => ?_, fun p w r' he H6 g6 gb => ?_⟩
        · refine ⟨_, rfl, _, rfl, ifF rfl ?_⟩
          exact ⟨2 * (n - j), by rw [cb]; show _ < 2 * (n - j) + 1; omega, F1, j, c, false, cs, ts, rfl, rfl, g.trans (g6.weak (mu' := muP lg) fun c z => z.elim), fg, fy, fd, s3, g6.fr _ _ hlg fun z => z, ga.gr g6 (fun z => z) (fun z => z), st, lj, (fun _ => stepC_none.mpr he), hh, wR.call g6 fun z => z, wP.call g6 fun z => z, wT.call g6 fun z => z, sa⟩
        · have st1 := stepC_go he
          have st2 := (stepsC_next st).trans st1
          have ok2 := ok.step hM st1
          have gg := g.thn g6 (fun c z => .inr (by rcases z with rfl | rfl <;> assumption))
          have hlgA := g6.fr _ _ hlg (fun z => by rcases z with z | z; exact lgy z; exact lgd z)
          have wR1 := wR.call g6 (fun z => by rcases z with z | z; exact yR z; exact dR z)
          have wP1 := wP.call g6 (fun z => by rcases z with z | z; exact yP z; exact dP z)
          have wT1 := wT.call g6 (fun z => by rcases z with z | z; exact yT z; exact dT z)
          obtain ⟨⟨dxb, hob⟩, hdb⟩ := id gb
          refine ⟨_, rfl, _, rfl, ifT rfl ?_⟩
          -- self.rows.append(walk.row)
          refine ⟨_, rfl, lg, t.C_Log, dl, _, _, rfl, hlgA, t.cl_Log, t.nA_Log_rows, L3_rows, .inl ⟨rfl, _, SqL.of wR1.h⟩, _, rfl, y, t.C_Goer, dxb, _, _, rfl, hob, t.cl_Goer, t.nA_Goer_row, Goer_get_row, Ra, _, _, rfl, rfl, wR1.h, by rw [List.length_map]; exact lt_size (by omega), ?_⟩
          have lR : (cs.map fun c => V.int c.r) ++ [V.int r'] = (cs ++ [(⟨r', c.s + w, put c.l c.s p⟩ : Cfg)]).map fun c => V.int c.r := by rw [List.map_append]; rfl
          have lP : (cs.map fun c => V.int c.s) ++ [V.int (c.s + w)] = (cs ++ [(⟨r', c.s + w, put c.l c.s p⟩ : Cfg)]).map fun c => V.int c.s := by rw [List.map_append]; rfl
          rw [lR]
          have gA := gg.set (o := .lst ((cs ++ [(⟨r', c.s + w, put c.l c.s p⟩ : Cfg)]).map fun c => V.int c.r)) wR1.f (.inl wR1.n)
          have wR2 := wR1.set (u := .lst ((cs ++ [(⟨r', c.s + w, put c.l c.s p⟩ : Cfg)]).map fun c => V.int c.r))
          have wP2 := wP1.other (u := .lst ((cs ++ [(⟨r', c.s + w, put c.l c.s p⟩ : Cfg)]).map fun c => V.int c.r)) RP.symm
          have wT2 := wT1.other (u := .lst ((cs ++ [(⟨r', c.s + w, put c.l c.s p⟩ : Cfg)]).map fun c => V.int c.r)) RT.symm
          have hlgB := (upd_ne (o := .lst ((cs ++ [(⟨r', c.s + w, put c.l c.s p⟩ : Cfg)]).map fun c => V.int c.r)) lgR).trans hlgA
          have gb2 : GoAt t.C_Goer _ y d m r' (c.s + w) (put c.l c.s p) (j + 1) := ⟨⟨dxb, (upd_ne (o := .lst ((cs ++ [(⟨r', c.s + w, put c.l c.s p⟩ : Cfg)]).map fun c => V.int c.r)) yR.symm).trans hob⟩, (upd_ne dR.symm).trans hdb⟩
          generalize upd H6 Ra (.lst ((cs ++ [(⟨r', c.s + w, put c.l c.s p⟩ : Cfg)]).map fun c => V.int c.r)) = H7 at gA wR2 wP2 wT2 hlgB gb2
          obtain ⟨⟨dxc, hoc⟩, hdc'⟩ := id gb2
          -- self.places.append(walk.spot)
          refine ⟨_, rfl, lg, t.C_Log, dl, _, _, rfl, hlgB, t.cl_Log, t.nA_Log_places, L3_places, .inl ⟨rfl, _, SqL.of wP2.h⟩, _, rfl, y, t.C_Goer, dxc, _, _, rfl, hoc, t.cl_Goer, t.nA_Goer_spot, Goer_get_spot, Pa, _, _, rfl, rfl, wP2.h, by rw [List.length_map]; exact lt_size (by omega), ?_⟩
          rw [lP]
          have gB := gA.set (o := .lst ((cs ++ [(⟨r', c.s + w, put c.l c.s p⟩ : Cfg)]).map fun c => V.int c.s)) wP2.f (.inl wP2.n)
          have wP3 := wP2.set (u := .lst ((cs ++ [(⟨r', c.s + w, put c.l c.s p⟩ : Cfg)]).map fun c => V.int c.s))
          have wR3 := wR2.other (u := .lst ((cs ++ [(⟨r', c.s + w, put c.l c.s p⟩ : Cfg)]).map fun c => V.int c.s)) RP
          have wT3 := wT2.other (u := .lst ((cs ++ [(⟨r', c.s + w, put c.l c.s p⟩ : Cfg)]).map fun c => V.int c.s)) PT.symm
          have hlgC := (upd_ne (o := .lst ((cs ++ [(⟨r', c.s + w, put c.l c.s p⟩ : Cfg)]).map fun c => V.int c.s)) lgP).trans hlgB
          have gb3 : GoAt t.C_Goer _ y d m r' (c.s + w) (put c.l c.s p) (j + 1) := ⟨⟨dxc, (upd_ne (o := .lst ((cs ++ [(⟨r', c.s + w, put c.l c.s p⟩ : Cfg)]).map fun c => V.int c.s)) yP.symm).trans hoc⟩, (upd_ne dP.symm).trans hdc'⟩
          generalize upd H7 Pa (.lst ((cs ++ [(⟨r', c.s + w, put c.l c.s p⟩ : Cfg)]).map fun c => V.int c.s)) = H8 at gB wR3 wP3 wT3 hlgC gb3
          obtain ⟨⟨dxd, hod⟩, hdd⟩ := id gb3
          -- self.strips.append(plain(walk.signs))
          refine ⟨_, rfl, lg, t.C_Log, dl, _, _, rfl, hlgC, t.cl_Log, t.nA_Log_strips, L3_strips, .inl ⟨rfl, _, SqL.of wT3.h⟩, _, rfl, y, t.C_Goer, dxd, _, _, rfl, hod, t.cl_Goer, t.nA_Goer_signs, Goer_get_signs, ?_⟩
          refine ⟨F1, d, put c.l c.s p, rfl, gB.fh, hdd, ok2.nd, by have := put_len c.l c.s p; omega, fun F9 H9 e g9 we => ?_⟩
          have wT4 := wT3.call g9 fun z => z
          have wR4 := wR3.call g9 fun z => z
          have wP4 := wP3.call g9 fun z => z
          have gC := gB.trans (g9.weak (mu' := muP lg) fun c z => z.elim)
          have eT : Ta ≠ e := ne_of wT4.h we.h (by intro z; cases z)
          have eR : Ra ≠ e := ne_of wR4.h we.h (by intro z; cases z)
          have eP : Pa ≠ e := ne_of wP4.h we.h (by intro z; cases z)
          have nye := g9.fr _ _ hod fun z => z
          have nde := g9.fr _ _ hdd fun z => z
          have nlge := g9.fr _ _ hlgC fun z => z
          have nyE : y ≠ e := ne_of nye we.h (by intro z; cases z)
          have ndE : d ≠ e := ne_of_none hdd we.n
          have nlgE : lg ≠ e := ne_of nlge we.h (by intro z; cases z)
          have gD := gC.frz we.h (gB.th _ we.n) we.f
          have s9 : Same F9 (upd F9 e (.dK (dI ((put c.l c.s p).filter nz)))) := sm_new (Same.refl F9) we.f
          have up : ∀ {q : Addr} {o : HO}, q ≠ e → Ow H F9 H9 q o → Ow H (upd F9 e (.dK (dI ((put c.l c.s p).filter nz)))) H9 q o := fun ne w => ⟨w.n, by rw [upd_ne ne]; exact w.f, w.h⟩
          have wT5 := up eT wT4
          have wR5 := up eR wR4
          have wP5 := up eP wP4
          have fe : (upd F9 e (.dK (dI ((put c.l c.s p).filter nz)))) e = some (.dK (dI ((put c.l c.s p).filter nz))) := upd_same
          have fy9 : (upd F9 e (.dK (dI ((put c.l c.s p).filter nz)))) y = none := by rw [upd_ne nyE]; exact g9.pf fy hod
          have fd9 : (upd F9 e (.dK (dI ((put c.l c.s p).filter nz)))) d = none := by rw [upd_ne ndE]; exact g9.pf fd hdd
          have fg9 : (upd F9 e (.dK (dI ((put c.l c.s p).filter nz)))) lg = none := by rw [upd_ne nlgE]; exact g9.pf fg hlgC
          have sa9 := (sa.up g9.ff).up s9
          have s39 : Same F3 (upd F9 e (.dK (dI ((put c.l c.s p).filter nz)))) := fun c o h => s9 _ _ (g9.ff _ _ (s3 _ _ h))
          generalize upd F9 e (.dK (dI ((put c.l c.s p).filter nz))) = Fe at gD wT5 wR5 wP5 fe fy9 fd9 fg9 sa9 s39
          refine ⟨Ta, _, _, rfl, rfl, wT5.h, lt_size (by omega), ?_⟩
          have gE := gD.set (o := .lst (ts ++ [.ref e])) wT5.f (.inl wT5.n)
          exact ⟨2 * (n - (j + 1)) + 1, by rw [cb]; show _ < 2 * (n - j) + 1; omega, Fe, j + 1, ⟨r', c.s + w, put c.l c.s p⟩, true, cs ++ [⟨r', c.s + w, put c.l c.s p⟩], ts ++ [.ref e], rfl, rfl, gE, fg9, fy9, fd9, s39, (upd_ne lgT).trans nlge, ⟨⟨dxd, (upd_ne yT.symm).trans nye⟩, (upd_ne dT.symm).trans nde⟩, st2, by omega, (fun z => nomatch z), hh.app st2, wR5.other RT, wP5.other PT, wT5.set, sa9.app (All2.one ⟨e, _, rfl, fe, ZRel.filt ok2.nd⟩)⟩
      · have cl : ¬ (j : Int) < n := fun z => cl (decide_eq_true z)
        refine ⟨_, rfl, y, dx, _, rfl, ho, Goer_no (by decide +kernel) (by decide +kernel) (by decide +kernel) (by decide +kernel) (by decide +kernel), F1, y, d, m, M, c.r, c.s, c.l, j, row, entOf M c, rfl, g.fh, hm1, ga, ok.r0, er, s0, ee, fun v hv => ⟨nil_le, fun p np => ?_⟩⟩
        refine eq_dat (a := entOf M c) (b := Ent.emp) (hv.up (g.own np).fh) ⟨p, rfl, upd_same⟩ ⟨_, rfl, lg, t.C_Log, dl, _, rfl, ln np hlg, t.cl_Log, t.nA_Log_has_ended, by show 3 < 1000; decide, ?_⟩
        rw [Log_mk3]
        exact fin _ ((Gr.refl (mu := mu0) g.fh).own np) (.inr (by omega)) _ rfl
    · refine ifF rfl ?_
      have cb : b = false := by cases b with | false => rfl | true => exact absurd rfl cb
      refine ⟨_, rfl, y, dx, _, rfl, ho, Goer_no (by decide +kernel) (by decide +kernel) (by decide +kernel) (by decide +kernel) (by decide +kernel), F1, y, d, m, M, c.r, c.s, c.l, j, row, entOf M c, rfl, g.fh, hm1, ga, ok.r0, er, s0, ee, fun v hv => ⟨nil_le, fun p np => ?_⟩⟩
      refine eq_dat (a := entOf M c) (b := Ent.emp) (hv.up (g.own np).fh) ⟨p, rfl, upd_same⟩ ⟨_, rfl, lg, t.C_Log, dl, _, rfl, ln np hlg, t.cl_Log, t.nA_Log_has_ended, by show 3 < 1000; decide, ?_⟩
      rw [Log_mk3]
      exact fin _ ((Gr.refl (mu := mu0) g.fh).own np) (.inl (hb cb)) _ rfl
/-! ### a log's last moment, setups that are the same -/
def sp_Log_last (C : Addr) : Sp := fun vs H Q _ => ∃ (F : Hp) (g Ra Pa Ta : Addr) (cs : List Cfg) (b : Bool), vs = [.ref g] ∧ Same F H ∧ LogAt C F H g Ra Pa Ta cs b ∧ Q (.int ((cs.length : Int) - 1 - (if b then 1 else 0))) H
theorem ok_Log_last (t : Tx K mg) : FnOk P w K mg base CX0 1 t.a_Log_last t.fd_Log_last ["self"] (sp_Log_last t.C_Log) := by
  refine t.F_Log_last.ok sc_Log_last (fun vs H Q E h => ?_) (fun cdv A outer s H vs Q E hr h => ?_)
  · obtain ⟨F, g, Ra, Pa, Ta, cs, b, rfl, _⟩ := h
    rfl
  · obtain ⟨F, g, Ra, Pa, Ta, cs, b, rfl, sF, x, q⟩ := h
    refine ⟨_, (pss_one (ps_ret (pe_op op_sub (pe_op op_sub (pe_callB (id := "len") call_lenQ (by rfl) t.n_len (by decide +kernel) (pa_cons (pe_fld (pv 0) rfl) pa_nil)) pe_int) (pe_callTy (T := "int") call_int1 (by rfl) t.n_int (by decide +kernel) (pa_cons (pe_fld (pv 0) rfl) pa_nil))))), ?_⟩
    obtain ⟨dx, ho⟩ := x.ob
    refine ⟨_, rfl, g, t.C_Log, dx, _, _, rfl, ho, t.cl_Log, t.nA_Log_rows, Log_get_rows, Ra, _, rfl, .inl (SqL.of (sF _ _ x.rw)), _, _, rfl, rfl, ?_⟩
    refine ⟨_, rfl, g, t.C_Log, dx, _, _, rfl, ho, t.cl_Log, t.nA_Log_has_ended, Log_get_has_ended, .inr ⟨b, rfl, _, _, rfl, rfl, ?_⟩⟩
    rw [List.length_map]
    exact q
/-- how many setups are known of a run: all but the one at an empty entry -/
def known (M : Mach) (k : Nat) (c : Cfg) : Nat := if entOf M c = Ent.emp then k else k + 1
def sameC (c c' : Cfg) : Bool := decide (c.r = c'.r) && decide (c.s = c'.s) && decide (told c.l = told c'.l)
theorem same_told {l l' m m' : List PI} (h : ZRel l l') (k : ZRel m m') : sameD l' m' = decide (told l = told m) := by
  rw [Bool.eq_iff_iff, sameD_iff h.n' k.n', decide_eq_true_iff, h.told, k.told]
  constructor
  · intro e
    refine srt_uniq (srt_srt _) (srt_srt _) ((srt_perm _).trans (List.Perm.trans ?_ (srt_perm _).symm))
    refine (List.perm_ext_iff_of_nodup (nd_nodup h.n') (nd_nodup k.n')).mpr fun q => ⟨fun m => ?_, fun m => ?_⟩
    · have a := look_mem h.n' m
      rw [e] at a
      exact mem_look a
    · have a := look_mem k.n' m
      rw [← e] at a
      exact mem_look a
  · intro e x
    have p : l'.Perm m' := ((srt_perm l').symm.trans (by rw [e])).trans (srt_perm m')
    cases a : look l' x with
    | some v =>
      have := p.mem_iff.mp (mem_look a)
      exact (look_mem k.n' this).symm
    | none =>
      cases b : look m' x with
      | none => rfl
      | some v =>
        have := p.mem_iff.mpr (mem_look b)
        rw [show look l' x = some v from look_mem h.n' this] at a
        cases a
def sp_Log_same (C : Addr) : Sp := fun vs H Q _ => ∃ (F : Hp) (g Ra Pa Ta : Addr) (cs : List Cfg) (b : Bool) (i j : Nat) (ci cj : Cfg), vs = [.ref g, .int i, .int j] ∧ Same F H ∧ LogAt C F H g Ra Pa Ta cs b ∧ cs[i]? = some ci ∧ cs[j]? = some cj ∧ Q (.bl (sameC ci cj)) H
theorem ok_Log_same (t : Tx K mg) : FnOk P w K mg base CX0 1 t.a_Log_same t.fd_Log_same ["self", "one", "other"] (sp_Log_same t.C_Log) := by
  refine t.F_Log_same.ok sc_Log_same (fun vs H Q E h => ?_) (fun cdv A outer s H vs Q E hr h => ?_)
  · obtain ⟨F, g, Ra, Pa, Ta, cs, b, i, j, ci, cj, rfl, _⟩ := h
    rfl
  · obtain ⟨F, g, Ra, Pa, Ta, cs, b, i, j, ci, cj, rfl, sF, x, hi, hj, q⟩ := h
    refine ⟨_, (pss_cons (ps_if (PW.pt (pw_or (pt_cmpR op_ne (pe_ix ix_list (pe_fld (pv 0) rfl) (pv 1) (fun _ _ => rfl)) (pe_ix ix_list (pe_fld (pv 0) rfl) (pv 2) (fun _ _ => rfl)) (nomark _)) (pw_or1 (pt_cmpR op_ne (pe_ix ix_list (pe_fld (pv 0) rfl) (pv 1) (fun _ _ => rfl)) (pe_ix ix_list (pe_fld (pv 0) rfl) (pv 2) (fun _ _ => rfl)) (nomark _))))) (pss_one (ps_ret pe_bl)) pss_nil)
      (pss_one (ps_ret (pe_cmpR (op_eqDi hr.units) (pe_ix ix_list (pe_fld (pv 0) rfl) (pv 1) (fun _ _ => rfl)) (pe_ix ix_list (pe_fld (pv 0) rfl) (pv 2) (fun _ _ => rfl)) (by rfl))))), ?_⟩
    obtain ⟨dx, ho⟩ := x.ob
    obtain ⟨ts, hT, sa⟩ := x.st
    have hR := SqL.of (K := K) (sF _ _ x.rw)
    have hP := SqL.of (K := K) (sF _ _ x.pl)
    have hT' := SqL.of (K := K) (sF _ _ hT)
    have atR : ∀ {i : Nat} {c : Cfg}, cs[i]? = some c → (cs.map fun c => V.int c.r)[i]? = some (.int c.r) := fun h => by rw [List.getElem?_map, h]; rfl
    have atP : ∀ {i : Nat} {c : Cfg}, cs[i]? = some c → (cs.map fun c => V.int c.s)[i]? = some (.int c.s) := fun h => by rw [List.getElem?_map, h]; rfl
    refine ⟨_, rfl, g, t.C_Log, dx, _, _, rfl, ho, t.cl_Log, t.nA_Log_rows, Log_get_rows, _, rfl, Ra, _, _, _, rfl, rfl, hR, atI_nat (j := i) (atR hi), ?_⟩
    refine ⟨_, rfl, g, t.C_Log, dx, _, _, rfl, ho, t.cl_Log, t.nA_Log_rows, Log_get_rows, _, rfl, Ra, _, _, _, rfl, rfl, hR, atI_nat (j := j) (atR hj), rfl, _, rfl, ?_⟩
    have no : ∀ {a b : Int}, a ≠ b → decide (V.int a = V.int b) = false := fun h => decide_eq_false fun z => h (V.int.inj z)
    have yes' : ∀ {a b : Int}, (!decide (V.int a = V.int b)) = true → ¬ a = b := fun h z => by rw [z, decide_eq_true rfl] at h; exact absurd h (by decide)
    have not' : ∀ {a b : Int}, ¬ (!decide (V.int a = V.int b)) = true → a = b := fun {a b} h => by
      by_cases z : a = b
      · exact z
      · rw [no z] at h; exact absurd rfl h
    refine ite2 (fun c => ?_) (fun c => ?_)
    · have e : sameC ci cj = false := by unfold sameC; rw [decide_eq_false (yes' c)]; rfl
      rw [e] at q
      exact ifT rfl q
    · have er := not' c
      refine ⟨_, rfl, g, t.C_Log, dx, _, _, rfl, ho, t.cl_Log, t.nA_Log_places, Log_get_places, _, rfl, Pa, _, _, _, rfl, rfl, hP, atI_nat (j := i) (atP hi), ?_⟩
      refine ⟨_, rfl, g, t.C_Log, dx, _, _, rfl, ho, t.cl_Log, t.nA_Log_places, Log_get_places, _, rfl, Pa, _, _, _, rfl, rfl, hP, atI_nat (j := j) (atP hj), rfl, _, rfl, ?_⟩
      refine ite2 (fun c => ?_) (fun c => ?_)
      · have e : sameC ci cj = false := by unfold sameC; rw [decide_eq_false (yes' c), Bool.and_false]; rfl
        rw [e] at q
        exact q
      · have es := not' c
        obtain ⟨vi, hvi, di, li, rfl, hdi, zi⟩ := sa.get hi
        obtain ⟨vj, hvj, dj, lj, rfl, hdj, zj⟩ := sa.get hj
        refine ⟨_, rfl, g, t.C_Log, dx, _, _, rfl, ho, t.cl_Log, t.nA_Log_strips, Log_get_strips, _, rfl, Ta, _, _, _, rfl, rfl, hT', atI_nat (j := i) hvi, ?_⟩
        refine ⟨_, rfl, g, t.C_Log, dx, _, _, rfl, ho, t.cl_Log, t.nA_Log_strips, Log_get_strips, _, rfl, Ta, _, _, _, rfl, rfl, hT', atI_nat (j := j) hvj, ?_⟩
        refine ⟨di, dj, li, lj, rfl, rfl, sF _ _ hdi, sF _ _ hdj, zi.n', ?_⟩
        have e : sameC ci cj = sameD li lj := by
          unfold sameC
          rw [decide_eq_true er, decide_eq_true es, same_told zi zj]; rfl
        rw [e] at q
        exact q
def tRing : TStr := ⟨"ring", by decide +kernel⟩
/-! ### setups that are the same, machines that go on, machines that end -/
def SameAt (M : Mach) (f l : Nat) : Prop := ∃ ci cj, stepsC M f = some ci ∧ stepsC M l = some cj ∧ sameC ci cj = true
/-! ### the first ring among the first K setups -/
def RingOf (M : Mach) (K : Nat) : Option (Nat × Nat) → Prop
  | none => ∀ f l, f < l → l < K → ¬ SameAt M f l
  | some (f, l) => f < l ∧ l < K ∧ SameAt M f l ∧ ∀ f' l', f' < l' → (l' < l ∨ (l' = l ∧ f' < f)) → ¬ SameAt M f' l'
theorem RingOf.uniq {M : Mach} {K : Nat} : ∀ {o o' : Option (Nat × Nat)}, RingOf M K o → RingOf M K o' → o = o'
  | none, none, _, _ => rfl
  | none, some (f, l), a, ⟨h1, h2, h3, _⟩ => (a f l h1 h2 h3).elim
  | some (f, l), none, ⟨h1, h2, h3, _⟩, b => (b f l h1 h2 h3).elim
  | some (f, l), some (f', l'), ⟨h1, h2, h3, h4⟩, ⟨k1, k2, k3, k4⟩ => by
    have a : ¬ (l' < l ∨ (l' = l ∧ f' < f)) := fun z => h4 f' l' k1 z k3
    have b : ¬ (l < l' ∨ (l = l' ∧ f < f')) := fun z => k4 f l h1 z h3
    have e1 : l = l' := by omega
    subst e1
    have e2 : f = f' := by omega
    rw [e2]
abbrev RingR := Option (T3 TStr Int Int)
def ringD : Option (Nat × Nat) → RingR
  | none => none
  | some (f, l) => some ⟨tRing, f, l⟩
def sp_ring : Sp := fun vs H Q _ => ∃ (F : Hp) (m : V) (M : Mach) (R S n : Nat), vs = [m, .int n] ∧ Same F H ∧ Is F m M ∧ MOk M R S ∧ n ≤ 5000 ∧
  ∀ (F' H' : Hp) (v : V) (k : Nat) (c : Cfg) (o : Option (Nat × Nat)), Gr mu0 F H F' H' → Gone M n k c → RingOf M (known M k c) o → Is F' v (ringD o) → Q v H'
theorem ok_ring (t : Tx K mg) : FnOk P w K mg base CX0 5 t.a_ring t.fd_ring ["machine", "most"] sp_ring := by
  refine t.F_ring.ok sc_ring (fun vs H Q E h => ?_) (fun cdv A outer s H vs Q E hr h => ?_)
  · obtain ⟨F, m, M, R, S, n, rfl, _⟩ := h
    rfl
  · obtain ⟨F, m, M, R, S, n, rfl, sF, hm, hM, hn, q⟩ := h
    refine ⟨_, (pss_cons (ps_expr (pe_call (ok_must_machine t) (hr.mono (by decide)) (by rfl) t.m_must_machine t.F_must_machine.kp t.b_must_machine .nil pass0 (pa_cons (pv 0) pa_nil)))
      (pss_cons (ps_set (i := 2) sc_ring.nd rfl (by first | exact Or.inl rfl | exact Or.inr rfl) (pe_make t.M_Log (ok_Log_init t) (hr.mono (by decide)) (by rfl) t.m_Log t.b_Log_init .nil pass0 (pa_cons (pv 0) (pa_cons (pv 1) pa_nil))))
      (pss_cons (ps_for PassesOwn.never rfl (pi_range2 (by rfl) t.n_range (pa_cons pe_int (pa_cons (pe_op op_add (pe_meth0 (pv 2) t.cl_Log t.M_Log_last (ok_Log_last t) (hr.mono (by decide)) t.b_Log_last .nil pass0) pe_int) pa_nil))) (pg_name (i := 3) sc_ring.nd rfl (by first | exact Or.inl rfl | exact Or.inr rfl)) (pss_one (ps_for PassesOwn.never rfl (pi_range1 (by rfl) t.n_range (pa_cons (pv 3) pa_nil)) (pg_name (i := 4) sc_ring.nd rfl (by first | exact Or.inl rfl | exact Or.inr rfl)) (pss_one (ps_if (pt_val (pe_meth (pv 2) t.cl_Log t.M_Log_same (ok_Log_same t) (hr.mono (by decide)) t.b_Log_same .nil pass0 (pa_cons (pv 4) (pa_cons (pv 3) pa_nil)))) (pss_one (ps_ret (pe_tup (pa_cons pe_str (pa_cons (pv 4) (pa_cons (pv 3) pa_nil)))))) pss_nil)))))
      (pss_one (ps_ret pe_non))))), ?_⟩
    refine ⟨_, rfl, F, m, M, R, S, rfl, sF, hm, hM, fun Ha ga => ?_⟩
    refine ⟨_, rfl, _, rfl, fun y dy ny ndy ney => ?_⟩
    have g1 := ga.own (o := .own y) ndy
    have ny2 : (upd Ha dy (.own y)) y = none := by rw [upd_ne ney.symm]; exact ny
    have g2 := g1.own (o := .ins t.C_Log dy []) ny2
    have hy : H y = none := ga.th _ ny
    have fy : F y = none := ga.fh.free ny
    refine ⟨F, y, dy, m, M, R, S, n, rfl, upd_same, fy, g2.fh, hm, hM, hn, fun F3 H3 Ra Pa Ta k c cs g3 fy3 go hh x => ⟨rfl, ?_⟩⟩
    have g13 := g2.thn g3 fun c z => .inr (by rw [show c = y from z]; exact hy)
    obtain ⟨dx, ho⟩ := x.ob
    have gle := go.le
    have lcs := hh.1
    have kn : (cs.length : Int) - 1 - (if (decide (entOf M c = Ent.emp)) = true then 1 else 0) + 1 = known M k c := by
      unfold known
      rw [lcs]
      by_cases e : entOf M c = Ent.emp
      · rw [if_pos (decide_eq_true e), if_pos e]; omega
      · rw [if_neg (by rw [decide_eq_false e]; decide), if_neg e]; omega
    have kle : known M k c ≤ k + 1 := by unfold known; split <;> omega
    refine ⟨_, rfl, y, dx, _, rfl, ho, Log_no (by decide +kernel) (by decide +kernel) (by decide +kernel) (by decide +kernel), F3, y, Ra, Pa, Ta, cs, _, rfl, g3.fh, x, _, _, rfl, rfl, ?_⟩
    refine ⟨1, (known M k c : Int), by rw [← kn], ⟨by decide, by decide, by omega, by omega⟩, ?_⟩
    have sat : ∀ {f : Nat} {a : Cfg}, cs[f]? = some a → stepsC M f = some a := fun h => hh.2 _ _ h
    have bad : ∀ {f l : Nat} {a b : Cfg}, cs[f]? = some a → cs[l]? = some b → sameC a b = false → ¬ SameAt M f l := fun ha hb e ⟨a', b', h1, h2, h3⟩ => by
      rw [sat ha] at h1
      rw [sat hb] at h2
      cases h1; cases h2
      rw [e] at h3; cases h3
    refine for_range (lo := 1) (n := ((known M k c : Int) - 1).toNat) (fun i σ G => ∃ v3 v4 : Option V, σ = [some m, some (.int n), some (.ref y), v3, v4] ∧ H3 = G ∧ ∀ f l, f < l → l < i + 1 → ¬ SameAt M f l) ⟨none, none, rfl, rfl, fun f l h1 h2 => by omega⟩ ?_ ?_
    · rintro i σ G hi ⟨v3, v4, rfl, rfl, hno⟩
      have ik : i + 1 < known M k c := by omega
      have hci : cs[i + 1]? = some _ := List.getElem?_eq_getElem (by omega)
      refine ⟨_, rfl, (1 + (i : Int)), rfl, by omega, by omega, for_range (lo := 0) (n := (1 + (i : Int)).toNat) (fun j σ G => ∃ v4 : Option V, σ = [some m, some (.int n), some (.ref y), some (.int (1 + i)), v4] ∧ H3 = G ∧ ∀ f, f < j → ¬ SameAt M f (i + 1)) ⟨v4, rfl, rfl, fun f h => by omega⟩ ?_ ?_⟩
      · rintro j σ G hj ⟨v4, rfl, rfl, hn2⟩
        have jl : j < i + 1 := by omega
        have hcj : cs[j]? = some _ := List.getElem?_eq_getElem (by omega)
        refine ⟨_, rfl, y, dx, _, rfl, ho, Log_no (by decide +kernel) (by decide +kernel) (by decide +kernel) (by decide +kernel), _, rfl, _, rfl, F3, y, Ra, Pa, Ta, cs, _, j, i + 1, _, _, by show [V.ref y, V.int (0 + (j : Int)), V.int (1 + (i : Int))] = [V.ref y, V.int ((j : Nat) : Int), V.int ((i + 1 : Nat) : Int)]; rw [show (0 : Int) + (j : Int) = ((j : Nat) : Int) by omega, show (1 : Int) + (i : Int) = ((i + 1 : Nat) : Int) by omega], g3.fh, x, hcj, hci, _, rfl, ?_⟩
        refine ite2 (fun c1 => ?_) (fun c1 => ?_)
        · refine ⟨_, rfl, _, rfl, three_le, fun u nu => ?_⟩
          have gu := g13.new (o := .tup [.str tRing.x, .int (0 + j), .int (1 + i)]) nu
          refine q _ _ (.ref u) k c (some (j, i + 1)) gu go ⟨jl, ik, ⟨_, _, sat hcj, sat hci, c1⟩, fun f' l' h1 h2 => ?_⟩ ⟨u, _, _, _, rfl, upd_same, rfl, by show V.int (0 + j) = V.int j; rw [Int.zero_add], by show V.int (1 + i) = V.int ((i + 1 : Nat) : Int); congr 1; omega⟩
          rcases h2 with h2 | ⟨rfl, h2⟩
          · exact hno f' l' h1 h2
          · exact hn2 f' h2
        · refine ⟨_, rfl, rfl, fun f h => ?_⟩
          have e : sameC cs[j] cs[i + 1] = false := by
            cases z : sameC cs[j] cs[i + 1] with
            | false => rfl
            | true => exact absurd z c1
          rcases Nat.lt_succ_iff_lt_or_eq.mp h with h | rfl
          · exact hn2 f h
          · exact bad hcj hci e
      · rintro σ G ⟨v4, rfl, rfl, hn2⟩
        refine ⟨_, _, rfl, rfl, fun f l h1 h2 => ?_⟩
        rcases Nat.lt_succ_iff_lt_or_eq.mp h2 with h2 | rfl
        · exact hno f l h1 h2
        · exact hn2 f (by omega)
    · rintro σ G ⟨v3, v4, rfl, rfl, hno⟩
      exact q F3 _ .non k c none g13 go (fun f l h1 h2 => hno f l h1 (by omega)) rfl
/-! ### the keys of a dict of ints -/
def dk (l : List PI) : List Int := l.map (·.a)
theorem dI_keys (l : List PI) : ((dI l).map fun kv => kV kv.1) = (dk l).map V.int := by
  unfold dI dk
  rw [List.map_map, List.map_map]; rfl
/-- what is read at a place -/
def gz (l : List PI) (x : Int) : Int := (look l x).getD 0
/-! ### drifts -/
theorem gz_out {l : List PI} {x : Int} (h : x ∉ dk l) : gz l x = 0 := by
  unfold gz
  rw [look_none.mpr h]; rfl
theorem drift_all {P : Int → Prop} {li lj : List PI} {d : Int} (h : ∀ y ∈ dk li ++ (dk lj).map (fun z => z - d), P y → gz li y = gz lj (y + d)) : ∀ x, P x → gz li x = gz lj (x + d) := by
  intro x p
  by_cases m : x ∈ dk li
  · exact h x (List.mem_append_left _ m) p
  · by_cases m' : x + d ∈ dk lj
    · exact h x (List.mem_append_right _ (List.mem_map.mpr ⟨x + d, m', by omega⟩)) p
    · rw [gz_out m, gz_out m']
/-- led along, from what is read on -/
def DriftLH (a b : Cfg) (lo hi : Int) : Prop := a.r = b.r ∧ a.s ≠ b.s ∧ ∀ x, ((a.s < b.s ∧ lo ≤ x) ∨ (b.s < a.s ∧ x ≤ hi)) → gz a.l x = gz b.l (x + (b.s - a.s))
theorem LogAt.gr {C : Addr} {F H F' H' : Hp} {lg R P T : Addr} {cs : List Cfg} {b : Bool} {mu : Addr → Prop} (x : LogAt C F H lg R P T cs b) (g : Gr mu F H F' H') (m : ¬ mu lg) : LogAt C F' H' lg R P T cs b := by
  obtain ⟨⟨dx, ho⟩, h1, h2, ts, h3, h4⟩ := x
  exact ⟨⟨dx, g.fr _ _ ho m⟩, g.ff _ _ h1, g.ff _ _ h2, ts, g.ff _ _ h3, h4.up g.ff⟩
theorem gz_rel {l l' : List PI} (h : ZRel l l') (x : Int) : gz l x = gz l' x := h.lk x
def sp_Log_drifts (C : Addr) : Sp := fun vs H Q _ => ∃ (F : Hp) (g Ra Pa Ta : Addr) (cs : List Cfg) (b : Bool) (i j : Nat) (ci cj : Cfg) (lo hi : Int), vs = [.ref g, .int i, .int j, .int lo, .int hi] ∧ Same F H ∧ LogAt C F H g Ra Pa Ta cs b ∧ cs[i]? = some ci ∧ cs[j]? = some cj ∧ ci.l.length ≤ 100000 ∧ cj.l.length ≤ 100000 ∧
  ∀ (F' H' : Hp) (r : Bool), Gr mu0 F H F' H' → (r = true ↔ DriftLH ci cj lo hi) → Q (.bl r) H'
theorem ok_Log_drifts (t : Tx K mg) : FnOk P w K mg base CX0 1 t.a_Log_drifts t.fd_Log_drifts ["self", "one", "other", "low", "high"] (sp_Log_drifts t.C_Log) := by
  refine t.F_Log_drifts.ok sc_Log_drifts (fun vs H Q E h => ?_) (fun cdv A outer s H vs Q E hr h => ?_)
  · obtain ⟨F, g, Ra, Pa, Ta, cs, b, i, j, ci, cj, lo, hi, rfl, _⟩ := h
    rfl
  · obtain ⟨F, g, Ra, Pa, Ta, cs, b, i, j, ci, cj, lo, hi, rfl, sF, x, hi', hj, li1, lj1, q⟩ := h
    refine ⟨_, (pss_cons (ps_set (i := 5) sc_Log_drifts.nd rfl (by first | exact Or.inl rfl | exact Or.inr rfl) (pe_op op_sub (pe_ix ix_list (pe_fld (pv 0) rfl) (pv 2) (fun _ _ => rfl)) (pe_ix ix_list (pe_fld (pv 0) rfl) (pv 1) (fun _ _ => rfl))))
      (pss_cons (ps_if (PW.pt (pw_or (pt_cmpR op_ne (pe_ix ix_list (pe_fld (pv 0) rfl) (pv 1) (fun _ _ => rfl)) (pe_ix ix_list (pe_fld (pv 0) rfl) (pv 2) (fun _ _ => rfl)) (nomark _)) (pw_or1 (pt_cmpR op_eq (pv 5) pe_int (nomark _))))) (pss_one (ps_ret pe_bl)) pss_nil)
      (pss_cons (ps_set (i := 6) sc_Log_drifts.nd rfl (by first | exact Or.inl rfl | exact Or.inr rfl) (pe_ix ix_list (pe_fld (pv 0) rfl) (pv 1) (fun _ _ => rfl)))
      (pss_cons (ps_set (i := 7) sc_Log_drifts.nd rfl (by first | exact Or.inl rfl | exact Or.inr rfl) (pe_ix ix_list (pe_fld (pv 0) rfl) (pv 2) (fun _ _ => rfl)))
      (pss_cons (ps_for PassesOwn.never rfl (pi_list (pe_op op_cat (pe_callTy (T := "list") (call_listD rfl) (by rfl) t.n_list (by decide +kernel) (pa_cons (pv 6) pa_nil)) (pe_lock (pe_lc (own := [("place", 8)]) (g := gName 8) (tt := tYes) rfl sc_Log_drifts.nd (pi_keys (pv 7)) (blkOk_by (N := N_Log_drifts) (sc := defScope s_Log_drifts) (by decide +kernel)) (fun _ _ _ _ _ => (pg_name (i := 8) sc_Log_drifts.nd rfl (by first | exact Or.inl rfl | exact Or.inr rfl))) (fun _ _ _ _ _ => pts_nil) (fun _ _ _ _ _ => (pe_op op_sub (pv 8) (pv 5))))))) (pg_name (i := 8) sc_Log_drifts.nd rfl (by first | exact Or.inl rfl | exact Or.inr rfl)) (pss_cons (ps_set (i := 9) sc_Log_drifts.nd rfl (by first | exact Or.inl rfl | exact Or.inr rfl) (pe_or (pe_and (pe_cmpR op_gt (pv 5) pe_int (nomark _)) (pe_one (pe_cmpR op_ge (pv 8) (pv 3) (nomark _)))) (pe_one (pe_and (pe_cmpR op_lt (pv 5) pe_int (nomark _)) (pe_one (pe_cmpR op_le (pv 8) (pv 4) (nomark _)))))))
      (pss_one (ps_if (PW.pt (pw_and (pt_val (pv 9)) (pw_and1 (pt_cmpR op_ne (pe_dget2 (hu_of hr) (pv 6) (pv 8) pe_int ⟨by rfl, by rfl, by rfl, by rfl⟩) (pe_dget2 (hu_of hr) (pv 7) (pe_op op_add (pv 8) (pv 5)) pe_int ⟨by rfl, by rfl, by rfl, by rfl⟩) (nomark _))))) (pss_one (ps_ret pe_bl)) pss_nil))))
      (pss_one (ps_ret pe_bl))))))), ?_⟩
    obtain ⟨dx, ho⟩ := x.ob
    obtain ⟨ts, hT, sa⟩ := x.st
    have hR := SqL.of (K := K) (sF _ _ x.rw)
    have hP := SqL.of (K := K) (sF _ _ x.pl)
    have hT' := SqL.of (K := K) (sF _ _ hT)
    have g0 : Gr mu0 F H F H := Gr.refl sF
    have atR : ∀ {i : Nat} {c : Cfg}, cs[i]? = some c → (cs.map fun c => V.int c.r)[i]? = some (.int c.r) := fun h => by rw [List.getElem?_map, h]; rfl
    have atP : ∀ {i : Nat} {c : Cfg}, cs[i]? = some c → (cs.map fun c => V.int c.s)[i]? = some (.int c.s) := fun h => by rw [List.getElem?_map, h]; rfl
    have no : ∀ {a b : Int}, a ≠ b → decide (V.int a = V.int b) = false := fun h => decide_eq_false fun z => h (V.int.inj z)
    have yes' : ∀ {a b : Int}, (!decide (V.int a = V.int b)) = true → ¬ a = b := fun h z => by rw [z, decide_eq_true rfl] at h; exact absurd h (by decide)
    have not' : ∀ {a b : Int}, ¬ (!decide (V.int a = V.int b)) = true → a = b := fun {a b} h => by
      by_cases z : a = b
      · exact z
      · rw [no z] at h; exact absurd rfl h
    -- by = self.places[other] - self.places[one]
    refine ⟨_, rfl, g, t.C_Log, dx, _, _, rfl, ho, t.cl_Log, t.nA_Log_places, Log_get_places, _, rfl, Pa, _, _, _, rfl, rfl, hP, atI_nat (j := j) (atP hj), ?_⟩
    refine ⟨_, rfl, g, t.C_Log, dx, _, _, rfl, ho, t.cl_Log, t.nA_Log_places, Log_get_places, _, rfl, Pa, _, _, _, rfl, rfl, hP, atI_nat (j := i) (atP hi'), _, _, rfl, rfl, ?_⟩
    -- if self.rows[one] != self.rows[other] or by == 0
    refine ⟨_, rfl, g, t.C_Log, dx, _, _, rfl, ho, t.cl_Log, t.nA_Log_rows, Log_get_rows, _, rfl, Ra, _, _, _, rfl, rfl, hR, atI_nat (j := i) (atR hi'), ?_⟩
    refine ⟨_, rfl, g, t.C_Log, dx, _, _, rfl, ho, t.cl_Log, t.nA_Log_rows, Log_get_rows, _, rfl, Ra, _, _, _, rfl, rfl, hR, atI_nat (j := j) (atR hj), rfl, _, rfl, ?_⟩
    refine ite2 (fun c => ?_) (fun c => ?_)
    · exact ifT rfl (q F H false g0 ⟨(fun z => nomatch z), fun z => absurd z.1 (yes' c)⟩)
    have er := not' c
    refine ⟨_, rfl, rfl, _, rfl, ?_⟩
    refine ite2 (fun c => ?_) (fun c => ?_)
    · have z := V.int.inj (of_decide_eq_true c)
      exact q F H false g0 ⟨(fun z => nomatch z), fun y => absurd (show ci.s = cj.s by omega) y.2.1⟩
    have es : ci.s ≠ cj.s := fun z => c (decide_eq_true (by show V.int (cj.s - ci.s) = V.int 0; rw [z, Int.sub_self]))
    obtain ⟨vi, hvi, di, li, rfl, hdi, zi⟩ := sa.get hi'
    obtain ⟨vj, hvj, dj, lj, rfl, hdj, zj⟩ := sa.get hj
    have lli := zi.len
    have llj := zj.len
    -- ahead, behind
    refine ⟨_, rfl, g, t.C_Log, dx, _, _, rfl, ho, t.cl_Log, t.nA_Log_strips, Log_get_strips, _, rfl, Ta, _, _, _, rfl, rfl, hT', atI_nat (j := i) hvi, ?_⟩
    refine ⟨_, rfl, g, t.C_Log, dx, _, _, rfl, ho, t.cl_Log, t.nA_Log_strips, Log_get_strips, _, rfl, Ta, _, _, _, rfl, rfl, hT', atI_nat (j := j) hvj, ?_⟩
    -- list(ahead) + [place - by for place in behind]
    refine ⟨_, rfl, di, _, rfl, .inl (sF _ _ hdi), fun p1 np1 => ?_⟩
    rw [dI_keys]
    have g1 := g0.own (o := .lst ((dk li).map V.int)) np1
    have hp1 : (upd H p1 (.lst ((dk li).map V.int))) p1 = some (.lst ((dk li).map V.int)) := upd_same
    generalize upd H p1 (.lst ((dk li).map V.int)) = H1 at g1 hp1
    refine ⟨dj, _, g1.fh _ _ hdj, trivial, fun od => ?_⟩
    have sL := lock_in (d := dj) (o := .frz od (.dK (dI lj))) g1.fh
    have hdB : (upd H1 dj (.frz od (.dK (dI lj)))) dj = some (.frz od (.dK (dI lj))) := upd_same
    have dl : (dI lj).length = lj.length := by unfold dI; rw [List.length_map]
    have gL : Gr mu0 _ (upd H1 dj (.frz od (.dK (dI lj)))) _ (upd H1 dj (.frz od (.dK (dI lj)))) := Gr.refl sL
    refine ⟨_, rfl, dj, od, rfl, .inl ⟨_, hdB, fun D nD => lc_it walk_keys (fun k G => Gr mu0 (fun c => if c = dj then none else F c) (upd H1 dj (.frz od (.dK (dI lj)))) (fun c => if c = dj then none else F c) G ∧ Ow (upd H1 dj (.frz od (.dK (dI lj)))) (fun c => if c = dj then none else F c) G D (.lst (((dk (lj.take k)).map fun z => z - (cj.s - ci.s)).map V.int))) ⟨gL.own nD, Ow.mk1 gL nD⟩ (fun k G _ ⟨g, _⟩ => g.fr _ _ hdB fun z => z) ?_ ?_⟩⟩
    · rintro k y G G' hk ⟨gk, wk⟩ ⟨rfl, kk, v, hkv, rfl⟩
      rw [dl] at hk
      rw [dI_get hk] at hkv
      cases hkv
      refine ⟨rfl, yes ⟨_, rfl, _, rfl, _, _, rfl, rfl, _, wk.h, lt_size (by rw [List.length_map, List.length_map]; unfold dk; rw [List.length_map, List.length_take]; omega), gk.set wk.f (.inl wk.n), ?_⟩⟩
      have e : ((dk (lj.take (k + 1))).map fun z => z - (cj.s - ci.s)).map V.int = ((dk (lj.take k)).map fun z => z - (cj.s - ci.s)).map V.int ++ [V.int (lj[k].a - (cj.s - ci.s))] := by
        unfold dk
        rw [List.take_add_one, List.getElem?_eq_getElem hk, List.map_append, List.map_append, List.map_append]; rfl
      rw [e]
      exact wk.set
    rintro G ⟨gk, wk⟩
    rw [dl, List.take_length] at wk
    obtain ⟨h1, h2, h3⟩ := lock_out g1.fh (g1.fh _ _ hdj) gk
    refine ⟨h1, ?_⟩
    have Dj : D ≠ dj := ne_of wk.h h1 (by intro z; cases z)
    have hDz := (upd_ne (o := .dK (dI lj)) Dj).trans wk.h
    have g2 := g1.trans h3
    have hp2 := h3.fr _ _ hp1 fun z => z
    have hdi2 := g2.fh _ _ (g2.ff _ _ hdi)
    have hdj2 := g2.fh _ _ (g2.ff _ _ hdj)
    generalize upd G dj (.dK (dI lj)) = H2 at g2 hp2 hDz hdi2 hdj2
    generalize (fun c => if c = dj then F dj else (fun c => if c = dj then none else F c) c) = F2 at g2
    refine ⟨p1, D, _, _, rfl, rfl, hp2, hDz, le_size (by rw [List.length_map, List.length_map, List.length_map]; unfold dk; rw [List.length_map, List.length_map]; omega), fun p3 np3 => ?_⟩
    rw [← List.map_append]
    have g3 := g2.own (o := .lst ((dk li ++ (dk lj).map fun z => z - (cj.s - ci.s)).map V.int)) np3
    have hp3 : (upd H2 p3 (.lst ((dk li ++ (dk lj).map fun z => z - (cj.s - ci.s)).map V.int))) p3 = some (.lst ((dk li ++ (dk lj).map fun z => z - (cj.s - ci.s)).map V.int)) := upd_same
    have hdi3 := ln (u := .lst ((dk li ++ (dk lj).map fun z => z - (cj.s - ci.s)).map V.int)) np3 hdi2
    have hdj3 := ln (u := .lst ((dk li ++ (dk lj).map fun z => z - (cj.s - ci.s)).map V.int)) np3 hdj2
    generalize upd H2 p3 (.lst ((dk li ++ (dk lj).map fun z => z - (cj.s - ci.s)).map V.int)) = H3 at g3 hp3 hdi3 hdj3
    generalize eys : dk li ++ (dk lj).map (fun z => z - (cj.s - ci.s)) = ys at hp3
    refine ⟨p3, rfl, ⟨_, SqL.of hp3⟩, for_list (K := K) (a := p3) (xs := ys.map V.int) (fun k σ G => ∃ v8 v9 : Option V, σ = [some (.ref g), some (.int i), some (.int j), some (.int lo), some (.int hi), some (.int (cj.s - ci.s)), some (.ref di), some (.ref dj), v8, v9] ∧ H3 = G ∧ ∀ (m : Nat) y, m < k → ys[m]? = some y → ((ci.s < cj.s ∧ lo ≤ y) ∨ (cj.s < ci.s ∧ y ≤ hi)) → gz li y = gz lj (y + (cj.s - ci.s))) ⟨none, none, rfl, rfl, fun m y h => absurd h (Nat.not_lt_zero _)⟩ (fun k σ G _ ⟨_, _, _, e, _⟩ => e ▸ SqL.of hp3) ?_ ?_⟩
    · rintro k y σ G hk ⟨v8, v9, rfl, rfl, hall⟩
      obtain ⟨y, rfl, hky⟩ := inr_int hk
      by_cases hb : 0 < cj.s - ci.s
      case' pos =>
        refine ⟨_, rfl, _, _, rfl, rfl, _, rfl, ifT (decide_eq_true hb) ?_⟩
        refine ⟨_, rfl, _, rfl, _, _, rfl, rfl, _, rfl, ?_⟩
        refine ite2 (fun c => ?A) (fun c => ?B)
      case' A =>
        have hw : true = true ↔ ((ci.s < cj.s ∧ lo ≤ y) ∨ (cj.s < ci.s ∧ y ≤ hi)) := ⟨fun _ => .inl ⟨by omega, of_decide_eq_true c⟩, fun _ => rfl⟩
      case' B =>
        have c : ¬ lo ≤ y := fun z => c (decide_eq_true z)
        have hw : false = true ↔ ((ci.s < cj.s ∧ lo ≤ y) ∨ (cj.s < ci.s ∧ y ≤ hi)) := ⟨(fun z => nomatch z), fun z => by omega⟩
        refine ⟨_, rfl, _, _, rfl, rfl, _, rfl, ifF (decide_eq_false (by omega)) ?_⟩
      case' neg =>
        refine ⟨_, rfl, _, _, rfl, rfl, _, rfl, ifF (decide_eq_false hb) ?_⟩
        refine ⟨_, rfl, ifF rfl ?_⟩
        refine ⟨_, rfl, _, _, rfl, rfl, _, rfl, ifT (decide_eq_true (show cj.s - ci.s < 0 by omega)) ?_⟩
        refine ⟨_, rfl, _, rfl, _, _, rfl, rfl, ?_⟩
        have hw : decide (y ≤ hi) = true ↔ ((ci.s < cj.s ∧ lo ≤ y) ∨ (cj.s < ci.s ∧ y ≤ hi)) := ⟨fun z => .inr ⟨by omega, of_decide_eq_true z⟩, fun z => decide_eq_true (by omega)⟩
      all_goals
        refine ⟨_, rfl, _, rfl, ?_⟩
        refine ite2 (fun cw => ?_) (fun cw => ?_)
        · refine ⟨_, rfl, di, rfl, .inl ⟨_, .inl hdi3⟩, _, rfl, _, DGet.k (k := Sum.inl y) hdi3, ?_⟩
          rw [dI_val, getD_int]
          refine ⟨_, rfl, dj, rfl, .inl ⟨_, .inl hdj3⟩, _, rfl, _, rfl, _, _, rfl, rfl, _, DGet.k (k := Sum.inl (y + (cj.s - ci.s))) hdj3, ?_⟩
          rw [dI_val, getD_int]
          refine ⟨rfl, _, rfl, ?_⟩
          refine ite2 (fun c => ?_) (fun c => ?_)
          · refine q _ _ false g3 ⟨(fun z => nomatch z), fun z => ?_⟩
            have e := z.2.2 y (hw.mp cw)
            rw [gz_rel zi, gz_rel zj] at e
            exact absurd e (yes' c)
          · refine ⟨_, _, rfl, rfl, fun m z hm hz hc => ?_⟩
            rcases Nat.lt_succ_iff_lt_or_eq.mp hm with hm | rfl
            · exact hall m z hm hz hc
            · rw [hky] at hz
              cases hz
              exact not' c
        · refine ⟨_, _, rfl, rfl, fun m z hm hz hc => ?_⟩
          rcases Nat.lt_succ_iff_lt_or_eq.mp hm with hm | rfl
          · exact hall m z hm hz hc
          · rw [hky] at hz
            cases hz
            exact absurd (hw.mpr hc) cw
    · rintro σ G ⟨v8, v9, rfl, rfl, hall⟩
      rw [List.length_map] at hall
      refine q _ _ true g3 ⟨fun _ => ⟨er, es, ?_⟩, fun _ => rfl⟩
      intro x hx
      rw [gz_rel zi, gz_rel zj]
      refine drift_all (P := fun y => (ci.s < cj.s ∧ lo ≤ y) ∨ (cj.s < ci.s ∧ y ≤ hi)) (fun y hy hc => ?_) x hx
      rw [eys] at hy
      obtain ⟨m, hm⟩ := List.getElem?_of_mem hy
      exact hall m y (List.getElem?_eq_some_iff.mp hm).1 hm hc
/-! ### the first two moments: the least last one, of these the least first one -/
def FirstOf (P : Nat → Nat → Prop) (K : Nat) : Option (Nat × Nat) → Prop
  | none => ∀ f l, f < l → l < K → ¬ P f l
  | some (f, l) => f < l ∧ l < K ∧ P f l ∧ ∀ f' l', f' < l' → (l' < l ∨ (l' = l ∧ f' < f)) → ¬ P f' l'
theorem FirstOf.uniq {P : Nat → Nat → Prop} {K : Nat} : ∀ {o o' : Option (Nat × Nat)}, FirstOf P K o → FirstOf P K o' → o = o'
  | none, none, _, _ => rfl
  | none, some (f, l), a, ⟨h1, h2, h3, _⟩ => (a f l h1 h2 h3).elim
  | some (f, l), none, ⟨h1, h2, h3, _⟩, b => (b f l h1 h2 h3).elim
  | some (f, l), some (f', l'), ⟨h1, h2, h3, h4⟩, ⟨k1, k2, k3, k4⟩ => by
    have a : ¬ (l' < l ∨ (l' = l ∧ f' < f)) := fun z => h4 f' l' k1 z k3
    have b : ¬ (l < l' ∨ (l = l' ∧ f < f')) := fun z => k4 f l h1 z h3
    have e1 : l = l' := by omega
    subst e1
    have e2 : f = f' := by omega
    rw [e2]
/-- the least place read from one moment up to another; the greatest -/
def LoM (M : Mach) (f l : Nat) (x : Int) : Prop := (∃ i c, f ≤ i ∧ i < l ∧ stepsC M i = some c ∧ c.s = x) ∧ ∀ i c, f ≤ i → i < l → stepsC M i = some c → x ≤ c.s
def HiM (M : Mach) (f l : Nat) (x : Int) : Prop := (∃ i c, f ≤ i ∧ i < l ∧ stepsC M i = some c ∧ c.s = x) ∧ ∀ i c, f ≤ i → i < l → stepsC M i = some c → c.s ≤ x
theorem LoM.one {M : Mach} {f : Nat} {c : Cfg} (h : stepsC M f = some c) : LoM M f (f + 1) c.s := by
  refine ⟨⟨f, c, Nat.le_refl _, Nat.lt_succ_self _, h, rfl⟩, fun i d h1 h2 h3 => ?_⟩
  rw [show i = f by omega, h] at h3
  cases h3
  exact Int.le_refl _
theorem HiM.one {M : Mach} {f : Nat} {c : Cfg} (h : stepsC M f = some c) : HiM M f (f + 1) c.s := by
  refine ⟨⟨f, c, Nat.le_refl _, Nat.lt_succ_self _, h, rfl⟩, fun i d h1 h2 h3 => ?_⟩
  rw [show i = f by omega, h] at h3
  cases h3
  exact Int.le_refl _
theorem LoM.step {M : Mach} {f f' l : Nat} {x : Int} {c : Cfg} (h : LoM M f' l x) (hc : stepsC M f = some c) (h1 : f ≤ f') (h2 : f' ≤ f + 1) (h3 : f < l) : LoM M f l (if c.s < x then c.s else x) := by
  obtain ⟨⟨i, d, a1, a2, a3, a4⟩, b⟩ := h
  refine ⟨?_, fun j e j1 j2 j3 => ?_⟩
  · split
    · exact ⟨f, c, Nat.le_refl _, h3, hc, rfl⟩
    · exact ⟨i, d, by omega, a2, a3, a4⟩
  · by_cases z : j = f
    · rw [z, hc] at j3
      cases j3
      split <;> omega
    · have := b j e (by omega) j2 j3
      split <;> omega
theorem HiM.step {M : Mach} {f f' l : Nat} {x : Int} {c : Cfg} (h : HiM M f' l x) (hc : stepsC M f = some c) (h1 : f ≤ f') (h2 : f' ≤ f + 1) (h3 : f < l) : HiM M f l (if c.s > x then c.s else x) := by
  obtain ⟨⟨i, d, a1, a2, a3, a4⟩, b⟩ := h
  refine ⟨?_, fun j e j1 j2 j3 => ?_⟩
  · split
    · exact ⟨f, c, Nat.le_refl _, h3, hc, rfl⟩
    · exact ⟨i, d, by omega, a2, a3, a4⟩
  · by_cases z : j = f
    · rw [z, hc] at j3
      cases j3
      split <;> omega
    · have := b j e (by omega) j2 j3
      split <;> omega
def DriftAt (M : Mach) (f l : Nat) : Prop := ∃ a b, stepsC M f = some a ∧ stepsC M l = some b ∧ a.r = b.r ∧ a.s ≠ b.s ∧ ∀ x,
  ((a.s < b.s ∧ ∃ i c, f ≤ i ∧ i < l ∧ stepsC M i = some c ∧ c.s ≤ x) ∨ (b.s < a.s ∧ ∃ i c, f ≤ i ∧ i < l ∧ stepsC M i = some c ∧ x ≤ c.s)) → gz a.l x = gz b.l (x + (b.s - a.s))
theorem LoM.le {M : Mach} {f l : Nat} {lo x : Int} (h : LoM M f l lo) : (∃ i c, f ≤ i ∧ i < l ∧ stepsC M i = some c ∧ c.s ≤ x) ↔ lo ≤ x := by
  constructor
  · rintro ⟨i, c, a, b, d, e⟩
    have := h.2 i c a b d; omega
  · intro e
    obtain ⟨⟨i, c, a, b, d, z⟩, _⟩ := h
    exact ⟨i, c, a, b, d, by omega⟩
theorem HiM.le {M : Mach} {f l : Nat} {hi x : Int} (h : HiM M f l hi) : (∃ i c, f ≤ i ∧ i < l ∧ stepsC M i = some c ∧ x ≤ c.s) ↔ x ≤ hi := by
  constructor
  · rintro ⟨i, c, a, b, d, e⟩
    have := h.2 i c a b d; omega
  · intro e
    obtain ⟨⟨i, c, a, b, d, z⟩, _⟩ := h
    exact ⟨i, c, a, b, d, by omega⟩
theorem drift_iff {M : Mach} {f l : Nat} {a b : Cfg} {lo hi : Int} (ha : stepsC M f = some a) (hb : stepsC M l = some b) (h1 : LoM M f l lo) (h2 : HiM M f l hi) : DriftAt M f l ↔ DriftLH a b lo hi := by
  constructor
  · rintro ⟨a', b', e1, e2, h3, h4, h5⟩
    rw [ha] at e1; rw [hb] at e2
    cases e1; cases e2
    refine ⟨h3, h4, fun x hx => h5 x ?_⟩
    rw [h1.le, h2.le]
    exact hx
  · rintro ⟨h3, h4, h5⟩
    refine ⟨a, b, ha, hb, h3, h4, fun x hx => h5 x ?_⟩
    rw [h1.le, h2.le] at hx
    exact hx
abbrev PapR := Option (T3 TStr Int Int)
def tDrift : TStr := ⟨"drift", by decide +kernel⟩
def driftD : Option (Nat × Nat) → PapR
  | none => none
  | some (f, l) => some ⟨tDrift, f, l⟩
def sp_drift : Sp := fun vs H Q _ => ∃ (F : Hp) (m : V) (M : Mach) (R S n : Nat), vs = [m, .int n] ∧ Same F H ∧ Is F m M ∧ MOk M R S ∧ n ≤ 5000 ∧
  ∀ (F' H' : Hp) (v : V) (k : Nat) (c : Cfg) (o : Option (Nat × Nat)), Gr mu0 F H F' H' → Gone M n k c → FirstOf (DriftAt M) (known M k c) o → Is F' v (driftD o) → Q v H'
/-- the best of the moments looked at -/
def bestV : Option Nat → V
  | none => .non
  | some b => .int b
def BestOf (P : Nat → Prop) (f l : Nat) : Option Nat → Prop
  | none => ∀ g, f ≤ g → g < l → ¬ P g
  | some b => f ≤ b ∧ b < l ∧ P b ∧ ∀ g, f ≤ g → g < b → ¬ P g
theorem ok_drift (t : Tx K mg) : FnOk P w K mg base CX0 5 t.a_drift t.fd_drift ["machine", "most"] sp_drift := by
  refine t.F_drift.ok sc_drift (fun vs H Q E h => ?_) (fun cdv A outer s H vs Q E hr h => ?_)
  · obtain ⟨F, m, M, R, S, n, rfl, _⟩ := h
    rfl
  · obtain ⟨F, m, M, R, S, n, rfl, sF, hm, hM, hn, q⟩ := h
    refine ⟨_, (pss_cons (ps_expr (pe_call (ok_must_machine t) (hr.mono (by decide)) (by rfl) t.m_must_machine t.F_must_machine.kp t.b_must_machine .nil pass0 (pa_cons (pv 0) pa_nil)))
      (pss_cons (ps_set (i := 2) sc_drift.nd rfl (by first | exact Or.inl rfl | exact Or.inr rfl) (pe_make t.M_Log (ok_Log_init t) (hr.mono (by decide)) (by rfl) t.m_Log t.b_Log_init .nil pass0 (pa_cons (pv 0) (pa_cons (pv 1) pa_nil))))
      (pss_cons (ps_for PassesOwn.never rfl (pi_range2 (by rfl) t.n_range (pa_cons pe_int (pa_cons (pe_op op_add (pe_meth0 (pv 2) t.cl_Log t.M_Log_last (ok_Log_last t) (hr.mono (by decide)) t.b_Log_last .nil pass0) pe_int) pa_nil))) (pg_name (i := 3) sc_drift.nd rfl (by first | exact Or.inl rfl | exact Or.inr rfl)) (pss_cons (ps_set (i := 4) sc_drift.nd rfl (by first | exact Or.inl rfl | exact Or.inr rfl) (pe_ix ix_list (pe_fld (pv 2) rfl) (pe_op op_sub (pv 3) pe_int) (fun _ _ => rfl)))
      (pss_cons (ps_set (i := 5) sc_drift.nd rfl (by first | exact Or.inl rfl | exact Or.inr rfl) (pv 4))
      (pss_cons (ps_set (i := 6) sc_drift.nd rfl (by first | exact Or.inl rfl | exact Or.inr rfl) pe_non)
      (pss_cons (ps_for PassesOwn.never rfl (pi_range3 (by rfl) t.n_range (pa_cons (pe_op op_sub (pv 3) pe_int) (pa_cons (pe_un un_neg pe_int) (pa_cons (pe_un un_neg pe_int) pa_nil)))) (pg_name (i := 7) sc_drift.nd rfl (by first | exact Or.inl rfl | exact Or.inr rfl)) (pss_cons (ps_set (i := 4) sc_drift.nd rfl (by first | exact Or.inl rfl | exact Or.inr rfl) (pe_callB (id := "min") (call_min2 rfl) (by rfl) t.n_min (by decide +kernel) (pa_cons (pv 4) (pa_cons (pe_ix ix_list (pe_fld (pv 2) rfl) (pv 7) (fun _ _ => rfl)) pa_nil))))
      (pss_cons (ps_set (i := 5) sc_drift.nd rfl (by first | exact Or.inl rfl | exact Or.inr rfl) (pe_callB (id := "max") (call_max2 rfl) (by rfl) t.n_max (by decide +kernel) (pa_cons (pv 5) (pa_cons (pe_ix ix_list (pe_fld (pv 2) rfl) (pv 7) (fun _ _ => rfl)) pa_nil))))
      (pss_one (ps_if (pt_val (pe_meth (pv 2) t.cl_Log t.M_Log_drifts (ok_Log_drifts t) (hr.mono (by decide)) t.b_Log_drifts .nil pass0 (pa_cons (pv 7) (pa_cons (pv 3) (pa_cons (pv 4) (pa_cons (pv 5) pa_nil)))))) (pss_one (ps_set (i := 6) sc_drift.nd rfl (by first | exact Or.inl rfl | exact Or.inr rfl) (pv 7))) pss_nil)))))
      (pss_one (ps_if (pt_cmpR op_notN (pv 6) pe_non (nomark _)) (pss_one (ps_ret (pe_tup (pa_cons pe_str (pa_cons (pv 6) (pa_cons (pv 3) pa_nil)))))) pss_nil)))))))
      (pss_one (ps_ret pe_non))))), ?_⟩
    refine ⟨_, rfl, F, m, M, R, S, rfl, sF, hm, hM, fun Ha ga => ?_⟩
    refine ⟨_, rfl, _, rfl, fun y dy ny ndy ney => ?_⟩
    have g1 := ga.own (o := .own y) ndy
    have ny2 : (upd Ha dy (.own y)) y = none := by rw [upd_ne ney.symm]; exact ny
    have g2 := g1.own (o := .ins t.C_Log dy []) ny2
    have hy : H y = none := ga.th _ ny
    have fy : F y = none := ga.fh.free ny
    refine ⟨F, y, dy, m, M, R, S, n, rfl, upd_same, fy, g2.fh, hm, hM, hn, fun F3 H3 Ra Pa Ta k c cs g3 fy3 go hh x => ⟨rfl, ?_⟩⟩
    have g13 := g2.thn g3 fun c z => .inr (by rw [show c = y from z]; exact hy)
    obtain ⟨dx, ho⟩ := x.ob
    have gle := go.le
    have lcs := hh.1
    have kn : (cs.length : Int) - 1 - (if (decide (entOf M c = Ent.emp)) = true then 1 else 0) + 1 = known M k c := by
      unfold known
      rw [lcs]
      by_cases e : entOf M c = Ent.emp
      · rw [if_pos (decide_eq_true e), if_pos e]; omega
      · rw [if_neg (by rw [decide_eq_false e]; decide), if_neg e]; omega
    have kle : known M k c ≤ k + 1 := by unfold known; split <;> omega
    refine ⟨_, rfl, y, dx, _, rfl, ho, Log_no (by decide +kernel) (by decide +kernel) (by decide +kernel) (by decide +kernel), F3, y, Ra, Pa, Ta, cs, _, rfl, g3.fh, x, _, _, rfl, rfl, ?_⟩
    refine ⟨1, (known M k c : Int), by rw [← kn], ⟨by decide, by decide, by omega, by omega⟩, ?_⟩
    have sat : ∀ {f : Nat} {a : Cfg}, cs[f]? = some a → stepsC M f = some a := fun h => hh.2 _ _ h
    have atP : ∀ {i : Nat} {c : Cfg}, cs[i]? = some c → (cs.map fun c => V.int c.s)[i]? = some (.int c.s) := fun h => by rw [List.getElem?_map, h]; rfl
    have len : ∀ {f : Nat} {a : Cfg}, cs[f]? = some a → a.l.length ≤ 100000 := fun {f a} h => by
      have h1 := (stepsC_ok hM (sat h)).2
      have h2 := (List.getElem?_eq_some_iff.mp h).1
      omega
    refine for_range (lo := 1) (n := ((known M k c : Int) - 1).toNat) (fun i σ G => ∃ (F4 : Hp) (v3 v4 v5 v6 v7 : Option V), σ = [some m, some (.int n), some (.ref y), v3, v4, v5, v6, v7] ∧ Gr mu0 F3 H3 F4 G ∧ ∀ f l, f < l → l < i + 1 → ¬ DriftAt M f l) ⟨F3, none, none, none, none, none, rfl, Gr.refl g3.fh, fun f l h1 h2 => by omega⟩ ?_ ?_
    · rintro i σ G hi ⟨F4, v3, v4, v5, v6, v7, rfl, g4, hno⟩
      have ik : i + 1 < known M k c := by omega
      have hci : cs[i + 1]? = some _ := List.getElem?_eq_getElem (by omega)
      have hcp : cs[i]? = some _ := List.getElem?_eq_getElem (by omega)
      have x4 := x.gr g4 fun z => z
      obtain ⟨dx4, ho4⟩ := x4.ob
      refine ⟨_, rfl, y, t.C_Log, dx4, _, _, rfl, ho4, t.cl_Log, t.nA_Log_places, Log_get_places, _, rfl, _, _, rfl, rfl, Pa, _, _, _, rfl, rfl, SqL.of (g4.fh _ _ x4.pl), at_of (j := i) (by omega) (atP hcp), ?_⟩
      refine ⟨_, rfl, ?_⟩
      refine ⟨_, rfl, _, _, rfl, rfl, _, rfl, _, rfl, (1 + (i : Int)) - 1, -1, -1, _, rfl, RgC.neg (by omega) (by omega) (by omega) (by omega), for_rangeC (lo := (1 + (i : Int)) - 1) (c := -1) (n := ((1 + (i : Int)) - 1 - -1).toNat) (fun j σ G => ∃ (F5 : Hp) (f' : Nat) (lo hi : Int) (best : Option Nat) (v7 : Option V), σ = [some m, some (.int n), some (.ref y), some (.int (1 + (i : Int))), some (.int lo), some (.int hi), some (bestV best), v7] ∧ Gr mu0 F3 H3 F5 G ∧ i - j ≤ f' ∧ f' ≤ i + 1 - j ∧ LoM M f' (i + 1) lo ∧ HiM M f' (i + 1) hi ∧ BestOf (fun f => DriftAt M f (i + 1)) (i + 1 - j) (i + 1) best)
        ⟨F4, i, _, _, none, v7, rfl, g4, Nat.le_refl _, Nat.le_succ _, LoM.one (sat hcp), HiM.one (sat hcp), fun g h1 h2 => by omega⟩ ?_ ?_⟩
      · rintro j σ G hj ⟨F5, f', lo, hi, best, v7, rfl, g5, hf1, hf2, il, ih, hb⟩
        have jl : j < i + 1 := by omega
        have hcj : cs[i - j]? = some _ := List.getElem?_eq_getElem (by omega)
        have x5 := x.gr g5 fun z => z
        obtain ⟨dx5, ho5⟩ := x5.ob
        refine ⟨_, rfl, _, rfl, y, t.C_Log, dx5, _, _, rfl, ho5, t.cl_Log, t.nA_Log_places, Log_get_places, _, rfl, Pa, _, _, _, rfl, rfl, SqL.of (g5.fh _ _ x5.pl), at_of (j := i - j) (by omega) (atP hcj), _, _, rfl, ?_⟩
        refine ⟨_, rfl, _, rfl, y, t.C_Log, dx5, _, _, rfl, ho5, t.cl_Log, t.nA_Log_places, Log_get_places, _, rfl, Pa, _, _, _, rfl, rfl, SqL.of (g5.fh _ _ x5.pl), at_of (j := i - j) (by omega) (atP hcj), _, _, rfl, ?_⟩
        have il2 := il.step (sat hcj) (by omega) (by omega) (show i - j < i + 1 by omega)
        have ih2 := ih.step (sat hcj) (by omega) (by omega) (show i - j < i + 1 by omega)
        have e1 : (1 : Int) + (i : Int) - 1 + (j : Nat) * -1 = ((i - j : Nat) : Int) := by omega
        have e2 : (1 : Int) + (i : Int) = ((i + 1 : Nat) : Int) := by omega
        refine ⟨_, rfl, y, dx5, _, rfl, ho5, Log_no (by decide +kernel) (by decide +kernel) (by decide +kernel) (by decide +kernel), _, rfl, _, rfl, _, rfl, _, rfl, F5, y, Ra, Pa, Ta, cs, _, i - j, i + 1, _, _, _, _, by show [V.ref y, V.int (1 + (i : Int) - 1 + (j : Nat) * -1), V.int (1 + (i : Int)), _, _] = [V.ref y, V.int ((i - j : Nat) : Int), V.int ((i + 1 : Nat) : Int), _, _]; rw [e1, e2], g5.fh, x5, hcj, hci, len hcj, len hci, fun F6 H6 r g6 hr' => ⟨_, rfl, ?_⟩⟩
        have dd := drift_iff (sat hcj) (sat hci) il2 ih2
        have g56 := g5.trans g6
        refine ite2 (fun c1 => ?_) (fun c1 => ?_)
        · refine ⟨_, rfl, F6, i - j, _, _, some (i - j), some (V.int (1 + (i : Int) - 1 + (j : Nat) * -1)), ?_, g56, by omega, by omega, il2, ih2, by omega, by omega, dd.mpr (hr'.mp c1), fun g h1 h2 => by omega⟩
          show [some m, some (V.int n), some (V.ref y), some (V.int (1 + (i : Int))), _, _, some (V.int (1 + (i : Int) - 1 + (j : Nat) * -1)), _] = [some m, some (V.int n), some (V.ref y), some (V.int (1 + (i : Int))), _, _, some (V.int ((i - j : Nat) : Int)), _]
          rw [e1]
        · have nd : ¬ DriftAt M (i - j) (i + 1) := fun z => c1 (hr'.mpr (dd.mp z))
          refine ⟨F6, i - j, _, _, best, _, rfl, g56, by omega, by omega, il2, ih2, ?_⟩
          cases best with
          | none =>
            intro g h1 h2
            by_cases z : g = i - j
            · rw [z]; exact nd
            · exact hb g (by omega) h2
          | some b =>
            obtain ⟨b1, b2, b3, b4⟩ := hb
            refine ⟨by omega, b2, b3, fun g h1 h2 => ?_⟩
            by_cases z : g = i - j
            · rw [z]; exact nd
            · exact b4 g (by omega) h2
      · rintro σ G ⟨F5, f', lo, hi, best, v7, rfl, g5, hf1, hf2, il, ih, hb⟩
        rw [show i + 1 - ((1 : Int) + (i : Int) - 1 - -1).toNat = 0 by omega] at hb
        refine ⟨_, rfl, rfl, _, rfl, ?_⟩
        cases best with
        | none =>
          refine ifF (by show (!decide (V.non = V.non)) = false; rw [decide_eq_true rfl]; rfl) ?_
          refine ⟨F5, _, _, _, _, _, rfl, g5, fun f l h1 h2 => ?_⟩
          rcases Nat.lt_succ_iff_lt_or_eq.mp h2 with h2 | rfl
          · exact hno f l h1 h2
          · exact hb f (Nat.zero_le _) h1
        | some b =>
          obtain ⟨_, b2, b3, b4⟩ := hb
          refine ifT (by show (!decide (V.int b = V.non)) = true; rw [decide_eq_false (fun z => nomatch z)]; rfl) ?_
          refine ⟨_, rfl, _, rfl, three_le, fun u nu => ?_⟩
          have gu := (g13.trans g5).new (o := .tup [.str tDrift.x, .int b, .int (1 + i)]) nu
          refine q _ _ (.ref u) k c (some (b, i + 1)) gu go ⟨b2, ik, b3, fun f' l' h1 h2 => ?_⟩ ⟨u, _, _, _, rfl, upd_same, rfl, rfl, by show V.int (1 + i) = V.int ((i + 1 : Nat) : Int); congr 1; omega⟩
          rcases h2 with h2 | ⟨rfl, h2⟩
          · exact hno f' l' h1 h2
          · exact b4 f' (Nat.zero_le _) h2
    · rintro σ G ⟨F4, v3, v4, v5, v6, v7, rfl, g4, hno⟩
      exact q F4 G .non k c none (g13.trans g4) go (fun f l h1 h2 => hno f l h1 (by omega)) rfl
theorem cut_mid {xs : List V} {f l : Nat} (h1 : f ≤ l) (h2 : l ≤ xs.length) : cutV xs (some (f : Int)) (some (l : Int)) = (xs.drop f).take (l - f) := by
  unfold cutV
  have e1 : HT.sIx xs.length 0 (some (f : Int)) = f := by
    simp only [HT.sIx]
    rw [if_neg (by omega), Int.toNat_natCast]; omega
  have e2 : HT.sIx xs.length xs.length (some (l : Int)) = l := by
    simp only [HT.sIx]
    rw [if_neg (by omega), Int.toNat_natCast]; omega
  rw [e1, e2]
/-- the machine goes on from the setup behind l steps; it ends there -/
def Goes (M : Mach) (l : Nat) : Prop := ∃ c, stepsC M l = some c ∧ stepC M c ≠ none
def Ends (M : Mach) (l : Nat) : Prop := ∃ c, stepsC M l = some c ∧ stepC M c = none
theorem stepsC_le {M : Mach} {k : Nat} {c : Cfg} (h : stepsC M k = some c) : ∀ {l : Nat}, l ≤ k → ∃ c', stepsC M l = some c' := by
  induction k generalizing c with
  | zero =>
    intro l hl
    rw [show l = 0 by omega]
    exact ⟨c, h⟩
  | succ k ih =>
    intro l hl
    by_cases e : l = k + 1
    · rw [e]; exact ⟨c, h⟩
    · obtain ⟨b, hb, _⟩ := stepsC_back h
      exact ih hb (by omega)
theorem Goes.of {M : Mach} {l k : Nat} {c : Cfg} (h : stepsC M k = some c) (lk : l < k) : Goes M l := by
  obtain ⟨d, hd⟩ := stepsC_le h (show l + 1 ≤ k by omega)
  obtain ⟨b, hb, e⟩ := stepsC_back hd
  exact ⟨b, hb, by rw [e]; exact fun z => nomatch z⟩
theorem known_iff {M : Mach} {n k l : Nat} {c : Cfg} (go : Gone M n k c) (hl : l ≤ n) : l < known M k c ↔ Goes M l := by
  have sn : stepC M c = none ↔ entOf M c = Ent.emp := stepC_none
  constructor
  · intro h
    unfold known at h
    split at h
    · exact Goes.of go.stp h
    · rename_i ne
      by_cases e : l = k
      · rw [e]
        exact ⟨c, go.stp, fun z => ne (sn.mp z)⟩
      · exact Goes.of go.stp (by omega)
  · rintro ⟨d, hd, nd⟩
    unfold known
    by_cases lk : l < k
    · split <;> omega
    · have lk : k ≤ l := by omega
      have nn : l = k := by
        rcases go.fin with e | e
        · by_cases z : l = k
          · exact z
          · have := stepsC_end go.stp e (l - (k + 1))
            rw [show k + 1 + (l - (k + 1)) = l by omega, hd] at this
            cases this
        · omega
      rw [nn, go.stp] at hd
      cases hd
      rw [if_neg (fun z => nd (sn.mpr z))]
      omega
theorem ends_iff {M : Mach} {n k : Nat} {c : Cfg} (go : Gone M n k c) {l : Nat} (hl : l ≤ n) : Ends M l ↔ (entOf M c = Ent.emp ∧ k = l) := by
  have sn : stepC M c = none ↔ entOf M c = Ent.emp := stepC_none
  constructor
  · rintro ⟨d, hd, e⟩
    have := go.uniq (n := n) (k' := l) (c' := d) ⟨hl, hd, .inl e⟩
    obtain ⟨rfl, rfl⟩ := this
    exact ⟨sn.mp e, rfl⟩
  · rintro ⟨e, rfl⟩
    exact ⟨c, go.stp, sn.mpr e⟩
/-! ### papers -/
inductive Pap where
  | opn
  | ends (n : Nat)
  | ring (f l : Nat)
  | drift (f l : Nat)
def tOpen : TStr := ⟨"open", by decide +kernel⟩
def PapAt (H : Hp) (v : V) : Pap → Prop
  | .opn => ∃ a, v = .ref a ∧ H a = some (.tup [.str tOpen.x])
  | .ends n => ∃ a, v = .ref a ∧ H a = some (.tup [.str tEnds.x, .int n])
  | .ring f l => ∃ a, v = .ref a ∧ H a = some (.tup [.str tRing.x, .int f, .int l])
  | .drift f l => ∃ a, v = .ref a ∧ H a = some (.tup [.str tDrift.x, .int f, .int l])
theorem PapAt.up {F F' : Hp} {v : V} {p : Pap} (h : PapAt F v p) (s : Same F F') : PapAt F' v p := by
  cases p <;> (obtain ⟨a, e, h⟩ := h; exact ⟨a, e, s _ _ h⟩)
def Pap.ok (M : Mach) : Pap → Prop
  | .opn => False
  | .ends n => Ends M n
  | .ring f l => f < l ∧ SameAt M f l ∧ Goes M l
  | .drift f l => f < l ∧ DriftAt M f l ∧ Goes M l
/-- the moments a paper has are no more than so many -/
def Pap.small (n : Nat) : Pap → Prop
  | .opn => True
  | .ends k => k ≤ n
  | .ring f l => f ≤ n ∧ l ≤ n
  | .drift f l => f ≤ n ∧ l ≤ n
theorem not_dec {p : Prop} [Decidable p] (h : (!decide p) = true) : ¬ p := fun z => by rw [decide_eq_true z] at h; cases h
theorem of_not_dec {p : Prop} [Decidable p] (h : ¬ (!decide p) = true) : p := by
  by_cases z : p
  · exact z
  · rw [decide_eq_false z] at h; exact absurd rfl h
def sp_is_ring : Sp := fun vs H Q _ => ∃ (F : Hp) (m : V) (M : Mach) (R S f l : Nat), vs = [m, .int f, .int l] ∧ Same F H ∧ Is F m M ∧ MOk M R S ∧ l ≤ 5000 ∧
  ∀ (F' H' : Hp) (r : Bool), Gr mu0 F H F' H' → (r = true ↔ (f < l ∧ SameAt M f l ∧ Goes M l)) → Q (.bl r) H'
theorem ok_is_ring (t : Tx K mg) : FnOk P w K mg base CX0 5 t.a_is_ring t.fd_is_ring ["machine", "first", "last"] sp_is_ring := by
  refine t.F_is_ring.ok sc_is_ring (fun vs H Q E h => ?_) (fun cdv A outer s H vs Q E hr h => ?_)
  · obtain ⟨F, m, M, R, S, f, l, rfl, _⟩ := h
    rfl
  · obtain ⟨F, m, M, R, S, f, l, rfl, sF, hm, hM, hl, q⟩ := h
    refine ⟨_, (pss_cons (ps_set (i := 3) sc_is_ring.nd rfl (by first | exact Or.inl rfl | exact Or.inr rfl) (pe_make t.M_Log (ok_Log_init t) (hr.mono (by decide)) (by rfl) t.m_Log t.b_Log_init .nil pass0 (pa_cons (pv 0) (pa_cons (pv 2) pa_nil))))
      (pss_one (ps_ret (pe_and (pe_chain op_lt op_le (pv 1) (pv 2) (pe_meth0 (pv 3) t.cl_Log t.M_Log_last (ok_Log_last t) (hr.mono (by decide)) t.b_Log_last .nil pass0)) (pe_one (pe_meth (pv 3) t.cl_Log t.M_Log_same (ok_Log_same t) (hr.mono (by decide)) t.b_Log_same .nil pass0 (pa_cons (pv 1) (pa_cons (pv 2) pa_nil)))))))), ?_⟩
    have ga : Gr mu0 F H F H := Gr.refl sF
    refine ⟨_, rfl, _, rfl, fun y dy ny ndy ney => ?_⟩
    have g1 := ga.own (o := .own y) ndy
    have ny2 : (upd H dy (.own y)) y = none := by rw [upd_ne ney.symm]; exact ny
    have g2 := g1.own (o := .ins t.C_Log dy []) ny2
    have hy : H y = none := ga.th _ ny
    have fy : F y = none := ga.fh.free ny
    refine ⟨F, y, dy, m, M, R, S, l, rfl, upd_same, fy, g2.fh, hm, hM, hl, fun F3 H3 Ra Pa Ta k c cs g3 fy3 go hh x => ⟨rfl, ?_⟩⟩
    have g13 := g2.thn g3 fun c z => .inr (by rw [show c = y from z]; exact hy)
    obtain ⟨dx, ho⟩ := x.ob
    have gle := go.le
    have lcs := hh.1
    have kn : (cs.length : Int) - 1 - (if (decide (entOf M c = Ent.emp)) = true then 1 else 0) + 1 = known M k c := by
      unfold known
      rw [lcs]
      by_cases e : entOf M c = Ent.emp
      · rw [if_pos (decide_eq_true e), if_pos e]; omega
      · rw [if_neg (by rw [decide_eq_false e]; decide), if_neg e]; omega
    have kle : known M k c ≤ k + 1 := by unfold known; split <;> omega
    have ki := known_iff go (Nat.le_refl l)
    have sat : ∀ {f : Nat} {a : Cfg}, cs[f]? = some a → stepsC M f = some a := fun h => hh.2 _ _ h
    refine ⟨_, rfl, _, rfl, _, _, rfl, rfl, _, rfl, ite2 (fun c1 => ?_) (fun c1 => ?_)⟩
    · have c1 : (f : Int) < l := of_decide_eq_true c1
      refine ⟨_, rfl, y, dx, _, rfl, ho, Log_no (by decide +kernel) (by decide +kernel) (by decide +kernel) (by decide +kernel), F3, y, Ra, Pa, Ta, cs, _, rfl, g3.fh, x, _, _, rfl, rfl, _, rfl, ite2 (fun c2 => ?_) (fun c2 => ?_)⟩
      · have c2 := of_decide_eq_true c2
        have lk : l < known M k c := by omega
        have hf : cs[f]? = some _ := List.getElem?_eq_getElem (by omega)
        have hl : cs[l]? = some _ := List.getElem?_eq_getElem (by omega)
        refine ⟨_, rfl, y, dx, _, rfl, ho, Log_no (by decide +kernel) (by decide +kernel) (by decide +kernel) (by decide +kernel), _, rfl, _, rfl, F3, y, Ra, Pa, Ta, cs, _, f, l, _, _, rfl, g3.fh, x, hf, hl, ?_⟩
        refine q F3 _ _ g13 ⟨fun z => ⟨by omega, ⟨_, _, sat hf, sat hl, z⟩, ki.mp lk⟩, fun ⟨_, ⟨a, b, h1, h2, h3⟩, _⟩ => ?_⟩
        rw [sat hf] at h1
        rw [sat hl] at h2
        cases h1; cases h2
        exact h3
      · have c2 := fun z => c2 (decide_eq_true z)
        refine q F3 _ _ g13 ⟨(fun z => nomatch z), fun z => ?_⟩
        have := ki.mpr z.2.2
        exact absurd (by omega) c2
    · have c1 : ¬ (f : Int) < l := fun z => c1 (decide_eq_true z)
      exact ⟨_, rfl, ifF rfl (q F3 _ _ g13 ⟨(fun z => nomatch z), fun z => absurd z.1 (by omega)⟩)⟩
def sp_is_drift : Sp := fun vs H Q _ => ∃ (F : Hp) (m : V) (M : Mach) (R S f l : Nat), vs = [m, .int f, .int l] ∧ Same F H ∧ Is F m M ∧ MOk M R S ∧ l ≤ 5000 ∧
  ∀ (F' H' : Hp) (r : Bool), Gr mu0 F H F' H' → (r = true ↔ (f < l ∧ DriftAt M f l ∧ Goes M l)) → Q (.bl r) H'
theorem ok_is_drift (t : Tx K mg) : FnOk P w K mg base CX0 5 t.a_is_drift t.fd_is_drift ["machine", "first", "last"] sp_is_drift := by
  refine t.F_is_drift.ok sc_is_drift (fun vs H Q E h => ?_) (fun cdv A outer s H vs Q E hr h => ?_)
  · obtain ⟨F, m, M, R, S, f, l, rfl, _⟩ := h
    rfl
  · obtain ⟨F, m, M, R, S, f, l, rfl, sF, hm, hM, hl, q⟩ := h
    refine ⟨_, (pss_cons (ps_set (i := 3) sc_is_drift.nd rfl (by first | exact Or.inl rfl | exact Or.inr rfl) (pe_make t.M_Log (ok_Log_init t) (hr.mono (by decide)) (by rfl) t.m_Log t.b_Log_init .nil pass0 (pa_cons (pv 0) (pa_cons (pv 2) pa_nil))))
      (pss_cons (ps_if (pt_not (pt_chain op_lt op_le (pv 1) (pv 2) (pe_meth0 (pv 3) t.cl_Log t.M_Log_last (ok_Log_last t) (hr.mono (by decide)) t.b_Log_last .nil pass0))) (pss_one (ps_ret pe_bl)) pss_nil)
      (pss_cons (ps_set (i := 4) sc_is_drift.nd rfl (by first | exact Or.inl rfl | exact Or.inr rfl) (pe_slice sl_list (pe_fld (pv 3) rfl) (po_some (pv 1)) (po_some (pv 2))))
      (pss_one (ps_ret (pe_meth (pv 3) t.cl_Log t.M_Log_drifts (ok_Log_drifts t) (hr.mono (by decide)) t.b_Log_drifts .nil pass0 (pa_cons (pv 1) (pa_cons (pv 2) (pa_cons (pe_callB (id := "min") (cr_min rfl) (by rfl) t.n_min (by decide +kernel) (pa_cons (pv 4) pa_nil)) (pa_cons (pe_callB (id := "max") (cr_max rfl) (by rfl) t.n_max (by decide +kernel) (pa_cons (pv 4) pa_nil)) pa_nil)))))))))), ?_⟩
    have ga : Gr mu0 F H F H := Gr.refl sF
    refine ⟨_, rfl, _, rfl, fun y dy ny ndy ney => ?_⟩
    have g1 := ga.own (o := .own y) ndy
    have ny2 : (upd H dy (.own y)) y = none := by rw [upd_ne ney.symm]; exact ny
    have g2 := g1.own (o := .ins t.C_Log dy []) ny2
    have hy : H y = none := ga.th _ ny
    have fy : F y = none := ga.fh.free ny
    refine ⟨F, y, dy, m, M, R, S, l, rfl, upd_same, fy, g2.fh, hm, hM, hl, fun F3 H3 Ra Pa Ta k c cs g3 fy3 go hh x => ⟨rfl, ?_⟩⟩
    have g13 := g2.thn g3 fun c z => .inr (by rw [show c = y from z]; exact hy)
    obtain ⟨dx, ho⟩ := x.ob
    have gle := go.le
    have lcs := hh.1
    have kn : (cs.length : Int) - 1 - (if (decide (entOf M c = Ent.emp)) = true then 1 else 0) + 1 = known M k c := by
      unfold known
      rw [lcs]
      by_cases e : entOf M c = Ent.emp
      · rw [if_pos (decide_eq_true e), if_pos e]; omega
      · rw [if_neg (by rw [decide_eq_false e]; decide), if_neg e]; omega
    have kle : known M k c ≤ k + 1 := by unfold known; split <;> omega
    have ki := known_iff go (Nat.le_refl l)
    have sat : ∀ {f : Nat} {a : Cfg}, cs[f]? = some a → stepsC M f = some a := fun h => hh.2 _ _ h
    have len : ∀ {f : Nat} {a : Cfg}, cs[f]? = some a → a.l.length ≤ 100000 := fun {f a} h => by
      have h1 := (stepsC_ok hM (sat h)).2
      have h2 := (List.getElem?_eq_some_iff.mp h).1
      omega
    refine ⟨_, rfl, _, rfl, _, _, rfl, rfl, _, rfl, ite2 (fun c1 => ?_) (fun c1 => ?_)⟩
    rotate_left
    · have c1 : ¬ (f : Int) < l := fun z => c1 (decide_eq_true z)
      exact ⟨_, rfl, ifT rfl (q F3 _ false g13 ⟨(fun z => nomatch z), fun z => absurd z.1 (by omega)⟩)⟩
    have c1 : (f : Int) < l := of_decide_eq_true c1
    refine ⟨_, rfl, y, dx, _, rfl, ho, Log_no (by decide +kernel) (by decide +kernel) (by decide +kernel) (by decide +kernel), F3, y, Ra, Pa, Ta, cs, _, rfl, g3.fh, x, _, _, rfl, rfl, _, rfl, ite2 (fun c2 => ?_) (fun c2 => ?_)⟩
    · have c2 := not_dec c2
      refine q F3 _ false g13 ⟨(fun z => nomatch z), fun z => ?_⟩
      have := ki.mpr z.2.2
      exact absurd (by omega) c2
    have c2 := of_not_dec c2
    have lk : l < known M k c := by omega
    have hf : cs[f]? = some _ := List.getElem?_eq_getElem (by omega)
    have hl' : cs[l]? = some _ := List.getElem?_eq_getElem (by omega)
    refine ⟨_, rfl, y, t.C_Log, dx, _, _, rfl, ho, t.cl_Log, t.nA_Log_places, Log_get_places, _, rfl, _, rfl, _, rfl, _, rfl, Pa, _, rfl, SqL.of (g3.fh _ _ x.pl), fun P nP => ?_⟩
    rw [cut_mid (by omega) (by rw [List.length_map]; omega)]
    have ens : ((cs.map fun c => V.int c.s).drop f).take (l - f) = (((cs.drop f).take (l - f)).map (·.s)).map V.int := by
      rw [List.map_map, List.map_take, List.map_drop]; rfl
    rw [ens]
    generalize hns : ((cs.drop f).take (l - f)).map (·.s) = ns
    have lns : 0 < ns.length := by rw [← hns, List.length_map, List.length_take, List.length_drop]; omega
    have mem : ∀ x, x ∈ ns ↔ ∃ i c, f ≤ i ∧ i < l ∧ stepsC M i = some c ∧ c.s = x := by
      intro x
      rw [← hns, List.mem_map]
      constructor
      · rintro ⟨d, hd, rfl⟩
        obtain ⟨i, hi⟩ := List.getElem?_of_mem hd
        rw [List.getElem?_take] at hi
        split at hi
        · rw [List.getElem?_drop] at hi
          exact ⟨f + i, d, by omega, by omega, sat hi, rfl⟩
        · cases hi
      · rintro ⟨i, d, h1, h2, h3, rfl⟩
        have hi : cs[i]? = some _ := List.getElem?_eq_getElem (by omega)
        rw [sat hi] at h3
        cases h3
        refine ⟨_, List.mem_of_getElem? (i := i - f) ?_, rfl⟩
        rw [List.getElem?_take, if_pos (by omega), List.getElem?_drop, show f + (i - f) = i by omega]
        exact hi
    have g4 := g13.own (o := .lst (ns.map V.int)) nP
    have g3' := (Gr.refl (mu := mu0) g3.fh).own (o := .lst (ns.map V.int)) nP
    have x4 := x.gr g3' fun z => z
    obtain ⟨dx4, ho4⟩ := x4.ob
    have hP : (upd H3 P (.lst (ns.map V.int))) P = some (.lst (ns.map V.int)) := upd_same
    generalize upd H3 P (.lst (ns.map V.int)) = H4 at g4 g3' x4 ho4 hP
    refine ⟨_, rfl, y, dx4, _, rfl, ho4, Log_no (by decide +kernel) (by decide +kernel) (by decide +kernel) (by decide +kernel), _, rfl, _, rfl, ?_⟩
    refine ⟨_, rfl, P, ns, rfl, SqL.of hP, lns, fun lo lm lh => ?_⟩
    refine ⟨_, rfl, P, ns, rfl, SqL.of hP, lns, fun hi hm hh' => ?_⟩
    have il : LoM M f l lo := ⟨(mem lo).mp lm, fun i d h1 h2 h3 => lh _ ((mem _).mpr ⟨i, d, h1, h2, h3, rfl⟩)⟩
    have ih : HiM M f l hi := ⟨(mem hi).mp hm, fun i d h1 h2 h3 => hh' _ ((mem _).mpr ⟨i, d, h1, h2, h3, rfl⟩)⟩
    have dd := drift_iff (sat hf) (sat hl') il ih
    refine ⟨F3, y, Ra, Pa, Ta, cs, _, f, l, _, _, lo, hi, rfl, g4.fh, x4, hf, hl', len hf, len hl', fun F5 H5 r g5 hr' => ?_⟩
    refine q F5 H5 r (g4.trans g5) ⟨fun z => ⟨by omega, dd.mpr (hr'.mp z), ki.mp lk⟩, fun z => hr'.mpr (dd.mp z.2.1)⟩
def sp_ends_behind : Sp := fun vs H Q _ => ∃ (F : Hp) (m : V) (M : Mach) (R S n : Nat), vs = [m, .int n] ∧ Same F H ∧ Is F m M ∧ MOk M R S ∧ n ≤ 5000 ∧
  ∀ (F' H' : Hp) (k : Nat) (c : Cfg), Gr mu0 F H F' H' → Gone M n k c → Q (if entOf M c = Ent.emp then .int k else .non) H'
theorem ok_ends_behind (t : Tx K mg) : FnOk P w K mg base CX0 4 t.a_ends_behind t.fd_ends_behind ["machine", "most"] sp_ends_behind := by
  refine t.F_ends_behind.ok sc_ends_behind (fun vs H Q E h => ?_) (fun cdv A outer s H vs Q E hr h => ?_)
  · obtain ⟨F, m, M, R, S, n, rfl, _⟩ := h
    rfl
  · obtain ⟨F, m, M, R, S, n, rfl, sF, hm, hM, hn, q⟩ := h
    refine ⟨_, (pss_cons (ps_asg (pe_call (ok_gone t) (hr.mono (by decide)) (by rfl) t.m_gone t.F_gone.kp t.b_gone .nil pass0 (pa_cons (pv 0) (pa_cons (pv 1) pa_nil))) (pg_tup rfl (pgs_cons (pg_name (i := 2) sc_ends_behind.nd rfl (by first | exact Or.inl rfl | exact Or.inr rfl)) (pgs_cons (pg_name (i := 3) sc_ends_behind.nd rfl (by first | exact Or.inl rfl | exact Or.inr rfl)) pgs_nil))))
      (pss_cons (ps_if (pt_val (pv 3)) (pss_one (ps_ret (pe_fld (pv 2) rfl))) pss_nil)
      (pss_one (ps_ret pe_non)))), ?_⟩
    refine ⟨_, rfl, _, rfl, F, m, M, R, S, n, rfl, sF, hm, hM, hn, fun F1 H1 u y d k c g1 hu ny nd fy fd ga go => ?_⟩
    obtain ⟨⟨dx, ho⟩, _⟩ := id ga
    have q1 := q F1 H1 k c g1 go
    refine ⟨u, _, rfl, SqT.of (g1.fh _ _ hu), rfl, _, _, rfl, _, _, rfl, rfl, ?_⟩
    refine ⟨_, rfl, _, rfl, ite2 (fun c1 => ?_) (fun c1 => ?_)⟩
    · rw [if_pos (of_decide_eq_true c1)] at q1
      exact ⟨_, rfl, y, t.C_Goer, dx, _, _, rfl, ho, t.cl_Goer, t.nA_Goer_steps, Goer_get_steps, q1⟩
    · rw [if_neg (fun z => c1 (decide_eq_true z))] at q1
      exact q1
theorem ne_str {a b : Str} (h : ¬ a = b) : ¬ decide (V.str a = V.str b) = true := fun z => h (V.str.inj (of_decide_eq_true z))
def sp_shows : Sp := fun vs H Q _ => ∃ (F : Hp) (m v : V) (M : Mach) (R S : Nat) (p : Pap), vs = [m, v] ∧ Same F H ∧ Is F m M ∧ MOk M R S ∧ PapAt F v p ∧ p.small 5000 ∧
  ∀ (F' H' : Hp) (r : Bool), Gr mu0 F H F' H' → (r = true ↔ p.ok M) → Q (.bl r) H'
theorem ok_shows (t : Tx K mg) : FnOk P w K mg base CX0 6 t.a_shows t.fd_shows ["machine", "paper"] sp_shows := by
  refine t.F_shows.ok sc_shows (fun vs H Q E h => ?_) (fun cdv A outer s H vs Q E hr h => ?_)
  · obtain ⟨F, m, v, M, R, S, p, rfl, _⟩ := h
    rfl
  · obtain ⟨F, m, v, M, R, S, p, rfl, sF, hm, hM, hp, hsm, q⟩ := h
    refine ⟨_, (pss_cons (ps_expr (pe_call (ok_must_machine t) (hr.mono (by decide)) (by rfl) t.m_must_machine t.F_must_machine.kp t.b_must_machine .nil pass0 (pa_cons (pv 0) pa_nil)))
      (pss_cons (ps_if (pt_cmpR op_eq (pe_ix ix_tup (pv 1) pe_int (fun _ _ => rfl)) pe_str (nomark _)) (pss_one (ps_ret (pe_cmpR op_eq (pe_call (ok_ends_behind t) (hr.mono (by decide)) (by rfl) t.m_ends_behind t.F_ends_behind.kp t.b_ends_behind .nil pass0 (pa_cons (pv 0) (pa_cons (pe_ix ix_tup (pv 1) pe_int (fun _ _ => rfl)) pa_nil))) (pe_ix ix_tup (pv 1) pe_int (fun _ _ => rfl)) (nomark _)))) pss_nil)
      (pss_cons (ps_if (pt_cmpR op_eq (pe_ix ix_tup (pv 1) pe_int (fun _ _ => rfl)) pe_str (nomark _)) (pss_one (ps_ret (pe_call (ok_is_ring t) (hr.mono (by decide)) (by rfl) t.m_is_ring t.F_is_ring.kp t.b_is_ring .nil pass0 (pa_cons (pv 0) (pa_cons (pe_ix ix_tup (pv 1) pe_int (fun _ _ => rfl)) (pa_cons (pe_ix ix_tup (pv 1) pe_int (fun _ _ => rfl)) pa_nil)))))) pss_nil)
      (pss_cons (ps_if (pt_cmpR op_eq (pe_ix ix_tup (pv 1) pe_int (fun _ _ => rfl)) pe_str (nomark _)) (pss_one (ps_ret (pe_call (ok_is_drift t) (hr.mono (by decide)) (by rfl) t.m_is_drift t.F_is_drift.kp t.b_is_drift .nil pass0 (pa_cons (pv 0) (pa_cons (pe_ix ix_tup (pv 1) pe_int (fun _ _ => rfl)) (pa_cons (pe_ix ix_tup (pv 1) pe_int (fun _ _ => rfl)) pa_nil)))))) pss_nil)
      (pss_cons (ps_if (pt_cmpR op_eq (pe_ix ix_tup (pv 1) pe_int (fun _ _ => rfl)) pe_str (nomark _)) (pss_one ps_never) pss_nil)
      (pss_cons (ps_if (pt_cmpR op_eq (pe_ix ix_tup (pv 1) pe_int (fun _ _ => rfl)) pe_str (nomark _)) (pss_one ps_never) pss_nil)
      (pss_one (ps_ret pe_bl)))))))), ?_⟩
    refine ⟨_, rfl, F, m, M, R, S, rfl, sF, hm, hM, fun Ha ga => ?_⟩
    have iF : ∀ {A B : Prop} {a b : Str}, ¬ a = b → B → if decide (V.str a = V.str b) = true then A else B := fun h b => by rw [if_neg (ne_str h)]; exact b
    have iT : ∀ {A B : Prop} {a : Str}, A → if decide (V.str a = V.str a) = true then A else B := fun a => by rw [if_pos (decide_eq_true rfl)]; exact a
    cases p with
    | opn =>
      obtain ⟨a, rfl, ha⟩ := hp
      have hA := SqT.of (K := K) (ga.fh _ _ ha)
      refine ⟨_, rfl, a, _, _, _, rfl, rfl, hA, atI_nat (j := 0) rfl, rfl, _, rfl, iF (by decide +kernel) ?_⟩
      refine ⟨_, rfl, a, _, _, _, rfl, rfl, hA, atI_nat (j := 0) rfl, rfl, _, rfl, iF (by decide +kernel) ?_⟩
      refine ⟨_, rfl, a, _, _, _, rfl, rfl, hA, atI_nat (j := 0) rfl, rfl, _, rfl, iF (by decide +kernel) ?_⟩
      refine ⟨_, rfl, a, _, _, _, rfl, rfl, hA, atI_nat (j := 0) rfl, rfl, _, rfl, iF (by decide +kernel) ?_⟩
      refine ⟨_, rfl, a, _, _, _, rfl, rfl, hA, atI_nat (j := 0) rfl, rfl, _, rfl, iF (by decide +kernel) ?_⟩
      exact q _ _ false ga ⟨(fun z => nomatch z), fun z => z.elim⟩
    | ends n =>
      obtain ⟨a, rfl, ha⟩ := hp
      have hA := SqT.of (K := K) (ga.fh _ _ ha)
      refine ⟨_, rfl, a, _, _, _, rfl, rfl, hA, atI_nat (j := 0) rfl, rfl, _, rfl, iT ?_⟩
      refine ⟨_, rfl, _, rfl, a, _, _, _, rfl, rfl, hA, atI_nat (j := 1) rfl, F, m, M, R, S, n, rfl, ga.fh, hm, hM, hsm, fun F1 H1 k c g1 go => ?_⟩
      refine ⟨_, rfl, a, _, _, _, rfl, rfl, SqT.of (g1.fh _ _ (g1.ff _ _ ha)), atI_nat (j := 1) rfl, ?_⟩
      have ei := ends_iff go (Nat.le_refl n)
      by_cases e : entOf M c = Ent.emp
      · rw [if_pos e]
        refine ⟨rfl, q _ _ _ (ga.trans g1) ⟨fun z => ei.mpr ⟨e, ?_⟩, fun z => decide_eq_true ?_⟩⟩
        · have := V.int.inj (of_decide_eq_true z); omega
        · rw [(ei.mp z).2]
      · rw [if_neg e]
        refine ⟨rfl, q _ _ _ (ga.trans g1) ⟨fun z => absurd (of_decide_eq_true z) (fun z => nomatch z), fun z => absurd (ei.mp z).1 e⟩⟩
    | ring f l =>
      obtain ⟨a, rfl, ha⟩ := hp
      have hA := SqT.of (K := K) (ga.fh _ _ ha)
      refine ⟨_, rfl, a, _, _, _, rfl, rfl, hA, atI_nat (j := 0) rfl, rfl, _, rfl, iF (by decide +kernel) ?_⟩
      refine ⟨_, rfl, a, _, _, _, rfl, rfl, hA, atI_nat (j := 0) rfl, rfl, _, rfl, iT ?_⟩
      refine ⟨_, rfl, _, rfl, a, _, _, _, rfl, rfl, hA, atI_nat (j := 1) rfl, _, rfl, a, _, _, _, rfl, rfl, hA, atI_nat (j := 2) rfl, F, m, M, R, S, f, l, rfl, ga.fh, hm, hM, hsm.2, fun F1 H1 r g1 hr' => ?_⟩
      exact q _ _ r (ga.trans g1) hr'
    | drift f l =>
      obtain ⟨a, rfl, ha⟩ := hp
      have hA := SqT.of (K := K) (ga.fh _ _ ha)
      refine ⟨_, rfl, a, _, _, _, rfl, rfl, hA, atI_nat (j := 0) rfl, rfl, _, rfl, iF (by decide +kernel) ?_⟩
      refine ⟨_, rfl, a, _, _, _, rfl, rfl, hA, atI_nat (j := 0) rfl, rfl, _, rfl, iF (by decide +kernel) ?_⟩
      refine ⟨_, rfl, a, _, _, _, rfl, rfl, hA, atI_nat (j := 0) rfl, rfl, _, rfl, iT ?_⟩
      refine ⟨_, rfl, _, rfl, a, _, _, _, rfl, rfl, hA, atI_nat (j := 1) rfl, _, rfl, a, _, _, _, rfl, rfl, hA, atI_nat (j := 2) rfl, F, m, M, R, S, f, l, rfl, ga.fh, hm, hM, hsm.2, fun F1 H1 r g1 hr' => ?_⟩
      exact q _ _ r (ga.trans g1) hr'
/-! ### how many things are in a set made of a list of nested tuples of whole numbers, all of them unlike -/
section
open PySem PySem.Spec PyProof.Rows
mutual
def noText : NestedKey → Bool
  | .text _ => false
  | .tup ks => noTexts ks
  | .none => true
  | .num _ => true
def noTexts : List NestedKey → Bool
  | [] => true
  | k :: ks => noText k && noTexts ks
end
variable {P : Program} {w : World} {A : Around} {E : Value → Shared → Prop} {s : Shared}
def ClsAt (P : Program) (w : World) (n : Nat) (s : Shared) (v : Value) : Prop := ∀ (A : Around) (E : Value → Shared → Prop) (Q : Bool → Shared → Prop), Q false s → wpAny (model P w) A (ofAClassStatement n v) Q E s
def HbvAt (P : Program) (w : World) (n : Nat) (s : Shared) (v : Value) : Prop := ∀ (A : Around) (E : Value → Shared → Prop) (Q : Bool → Shared → Prop), Q true s → wpAny (model P w) A (hashByValue n v) Q E s
theorem ClsAt.tuple {n : Nat} {a : Addr} {o : Obj} {vs : Array Value} {m : Nat} (ho : s.heap.get? a = some o) (hc : o.cls = .type "tuple") (hd : o.data = .seq vs m) (hq : ∀ v ∈ vs.toList, ClsAt P w n s v) : ClsAt P w (n + 1) s (.ref a) := fun A E Q h => by
  have hT : s.TypeIs (.ref a) "tuple" := ⟨o, ho, hc⟩
  unfold ofAClassStatement
  refine wpAny_bind (wpAny_typeOf hT ?_)
  dsimp only
  have e : (("tuple" : String) == "tuple") = true := by decide
  simp only [e, if_true, Bool.not_true, Bool.false_eq_true, if_false]
  try refine wpAny_bind (wpAny_pure ?_)
  try simp only [Bool.not_true, Bool.false_eq_true, if_false]
  show wpAny _ _ (seqItems? (.ref a) >>= _) _ _ s
  refine wpAny_bind (wpAny_seqItems ho hd ?_)
  dsimp only
  refine wpAny_bind ?_
  show wpAny _ _ (forIn vs _ _) _ _ s
  rw [← Array.forIn_toList]
  refine wpAny_forIn_list _ (fun rest r s' => r.1 = none ∧ s' = s ∧ ∀ v ∈ rest, ClsAt P w n s v) _ ?_ ?_ _ _ ⟨rfl, rfl, hq⟩
  · rintro v rest r s' ⟨hr, rfl, hall⟩
    refine wpAny_bind (hall v List.mem_cons_self _ _ _ ?_)
    simp only [Bool.false_eq_true, if_false]
    exact wpAny_pure ⟨rfl, rfl, fun u hu' => hall u (List.mem_cons_of_mem _ hu')⟩
  · rintro ⟨r1, r2⟩ s' ⟨hr, rfl, _⟩
    simp only at hr
    subst hr
    exact wpAny_pure h
theorem HbvAt.tuple {n : Nat} {a : Addr} {o : Obj} {vs : Array Value} {m : Nat} (ho : s.heap.get? a = some o) (hc : o.cls = .type "tuple") (hd : o.data = .seq vs m) (hq : ∀ v ∈ vs.toList, HbvAt P w n s v) : HbvAt P w (n + 1) s (.ref a) := fun A E Q h => by
  have hT : s.TypeIs (.ref a) "tuple" := ⟨o, ho, hc⟩
  unfold hashByValue
  refine wpAny_bind (wpAny_specialOf hT F.slot_tuple_hash.lookup ?_)
  show wpAny _ _ (seqItems? (.ref a) >>= _) _ _ s
  refine wpAny_bind (wpAny_seqItems ho hd ?_)
  refine wpAny_bind ?_
  show wpAny _ _ (forIn vs _ _) _ _ s
  rw [← Array.forIn_toList]
  refine wpAny_forIn_list _ (fun rest r s' => r.1 = none ∧ s' = s ∧ ∀ v ∈ rest, HbvAt P w n s v) _ ?_ ?_ _ _ ⟨rfl, rfl, hq⟩
  · rintro v rest r s' ⟨hr, rfl, hall⟩
    refine wpAny_bind (hall v List.mem_cons_self _ _ _ ?_)
    simp only [Bool.not_true, Bool.false_eq_true, if_false]
    exact wpAny_pure ⟨rfl, rfl, fun u hu' => hall u (List.mem_cons_of_mem _ hu')⟩
  · rintro ⟨r1, r2⟩ s' ⟨hr, rfl, _⟩
    simp only at hr
    subst hr
    exact wpAny_pure h
theorem ClsAt.val {n : Nat} {v : Value} (h : ofAClassStatement n v = pure false) : ClsAt P w n s v := fun A E Q q => by rw [h]; exact wpAny_pure q
theorem HbvAt.val {n : Nat} {v : Value} (h : hashByValue n v = pure true) : HbvAt P w n s v := fun A E Q q => by rw [h]; exact wpAny_pure q
mutual
theorem cls_key : ∀ (k : NestedKey) (v : Value) (n : Nat) (s : Shared), NestedIs s.heap k v → k.depth ≤ n → ClsAt P w n s v
  | .none, _, n, s, x, _ => by cases x; exact .val (by cases n <;> rfl)
  | .num i, _, n, s, x, _ => by cases x <;> exact .val (by cases n <;> rfl)
  | .text y, _, n, s, x, _ => by cases x; exact .val (by cases n <;> rfl)
  | .tup ks, _, n, s, x, hn => by
    cases x with
    | tup hg hc hd hk =>
      simp only [NestedKey.depth] at hn
      cases n with
      | zero => omega
      | succ n => exact .tuple hg hc hd (cls_keys ks _ n s hk (by omega))
theorem cls_keys : ∀ (ks : List NestedKey) (vs : List Value) (n : Nat) (s : Shared), NestedAll s.heap ks vs → NestedKey.depthAll ks ≤ n → ∀ v ∈ vs, ClsAt P w n s v
  | [], _, n, s, x, _, v, hv => by cases x; cases hv
  | k :: ks, _, n, s, x, hn, v, hv => by
    cases x with
    | cons x1 x2 =>
      simp only [NestedKey.depthAll] at hn
      rcases List.mem_cons.mp hv with e | hv
      · rw [e]; exact cls_key k _ n s x1 (by omega)
      · exact cls_keys ks _ n s x2 (by omega) v hv
end
mutual
theorem hbv_key : ∀ (k : NestedKey) (v : Value) (n : Nat) (s : Shared), NestedIs s.heap k v → k.depth ≤ n → noText k = true → HbvAt P w n s v
  | .none, _, n, s, x, _, _ => by cases x; exact .val (by cases n <;> rfl)
  | .num i, _, n, s, x, _, _ => by cases x <;> exact .val (by cases n <;> rfl)
  | .text y, _, n, s, x, _, z => by rw [noText] at z; cases z
  | .tup ks, _, n, s, x, hn, z => by
    cases x with
    | tup hg hc hd hk =>
      simp only [NestedKey.depth] at hn
      rw [noText] at z
      cases n with
      | zero => omega
      | succ n => exact .tuple hg hc hd (hbv_keys ks _ n s hk (by omega) z)
theorem hbv_keys : ∀ (ks : List NestedKey) (vs : List Value) (n : Nat) (s : Shared), NestedAll s.heap ks vs → NestedKey.depthAll ks ≤ n → noTexts ks = true → ∀ v ∈ vs, HbvAt P w n s v
  | [], _, n, s, x, _, _, v, hv => by cases x; cases hv
  | k :: ks, _, n, s, x, hn, z, v, hv => by
    cases x with
    | cons x1 x2 =>
      simp only [NestedKey.depthAll] at hn
      rw [noTexts, Bool.and_eq_true] at z
      rcases List.mem_cons.mp hv with e | hv
      · rw [e]; exact hbv_key k _ n s x1 (by omega) z.1
      · exact hbv_keys ks _ n s x2 (by omega) z.2 v hv
end
/-- the tuple at a is such a key -/
structure KyAt (h : Heap) (k : NestedKey) (a : Addr) : Prop where
  is : NestedIs h k (.ref a)
  d8 : k.depth ≤ 8
  nt : noText k = true
theorem KyAt.keep {h h' : Heap} {k : NestedKey} {a : Addr} (x : KyAt h k a) (hk : ∀ c o vs n, h.get? c = some o → o.data = .seq vs n → h'.get? c = some o) : KyAt h' k a := ⟨NestedIs.at hk _ _ x.is, x.d8, x.nt⟩
theorem KyAt.but {h h' : Heap} {k : NestedKey} {a d : Addr} {o : Obj} {es : Array (Int × Value)} {ep : Nat} {t : SetTable} (x : KyAt h k a) (ho : h.get? d = some o) (hd : o.data = .set es ep t) (hs : Heap.SameBut d h h') : KyAt h' k a := x.keep fun c o' vs n hc hv => by
  have ne : c ≠ d := by
    rintro rfl
    obtain rfl : o' = o := Option.some.inj (hc.symm.trans ho)
    rw [hd] at hv
    exact nomatch hv
  exact (hs.2 c ne).trans hc
theorem seen_ky {k : NestedKey} {b : Addr} {Q : Bool → Shared → Prop} (hk : KyAt s.heap k b) {ys : List Value} (hy : ∀ y ∈ ys, ∃ k' c, y = Value.ref c ∧ KyAt s.heap k' c) (h : Q false s) :
    wpAny (model P w) A (searchCouldBeSeen (.ref b) ys) Q E s := by
  unfold searchCouldBeSeen
  refine wpAny_bind ?_
  refine wpAny_forIn_list _ (fun rest r s' => r.1 = none ∧ s' = s ∧ ∀ y ∈ rest, ∃ k' c, y = Value.ref c ∧ KyAt s.heap k' c) _ ?_ ?_ _ _ ⟨rfl, rfl, hy⟩
  · rintro v rest r s' ⟨hr, rfl, hall⟩
    obtain ⟨k', c, rfl, hc⟩ := hall v List.mem_cons_self
    have rest' : ∀ y ∈ rest, ∃ k' c, y = Value.ref c ∧ KyAt s'.heap k' c := fun u hu' => hall u (List.mem_cons_of_mem _ hu')
    dsimp only
    by_cases hv : (b == c || (carriedByValue (.ref b) && carriedByValue (.ref c))) = true
    · refine wp_if_pos hv ?_
      exact wpAny_pure ⟨rfl, rfl, rest'⟩
    · refine wp_if_neg hv ?_
      refine wpAny_bind (quiet_key k _ 8 s' hk.is hk.d8 _ _ _ ?_)
      simp only [Bool.not_true, Bool.false_eq_true, if_false]
      refine wpAny_bind (quiet_key k' _ 8 s' hc.is hc.d8 _ _ _ ?_)
      simp only [Bool.not_true, Bool.false_eq_true, if_false]
      refine wpAny_bind (cls_key k _ 8 s' hk.is hk.d8 _ _ _ ?_)
      simp only [Bool.false_eq_true, if_false]
      refine wpAny_bind (cls_key k' _ 8 s' hc.is hc.d8 _ _ _ ?_)
      simp only [Bool.false_eq_true, if_false]
      exact wpAny_pure ⟨rfl, rfl, rest'⟩
  · rintro ⟨r1, r2⟩ s' ⟨hr, rfl, _⟩
    simp only at hr
    subst hr
    exact wpAny_pure h
end
/-! ### the set of such tuples while it grows by ones that are not in it -/
section
open PySem PySem.Spec PyProof.Rows
def krow (w : World) (p : Addr × NestedKey) : Int × Value := (p.2.hash w, Value.ref p.1)
structure SetK (w : World) (h : Heap) (a : Addr) (L : List (Addr × NestedKey)) (es : Array (Int × Value)) (ep : Nat) (t : SetTable) : Prop where
  ob : ∃ o, h.get? a = some o ∧ o.ExactSet ∧ o.data = .set es ep t
  rows : es.toList = L.map (krow w)
  tab : TabOk t (L.map fun p => p.2.hash w)
  ky : ∀ p ∈ L, KyAt h p.2 p.1
  plain : t.plain = true
  led : w.params.followText "set-order" = true ∨ t.led = true
  room : L.length * 5 < t.mask * 3
  few : L.length < 64
variable {P : Program} {w : World} {A : Around} {E : Value → Shared → Prop} {s : Shared} {a : Addr} {L : List (Addr × NestedKey)} {es : Array (Int × Value)} {ep : Nat} {t : SetTable}
theorem rows_len {es : Array (Int × Value)} {L : List (Addr × NestedKey)} (h : es.toList = L.map (krow w)) : es.size = L.length := by
  have e := congrArg List.length h
  rw [Array.length_toList, List.length_map] at e
  exact e
theorem rows_at {es : Array (Int × Value)} {L : List (Addr × NestedKey)} (h : es.toList = L.map (krow w)) {i : Nat} {p : Addr × NestedKey} (hp : L[i]? = some p) : es[i]? = some (krow w p) := by
  rw [← Array.getElem?_toList, h, List.getElem?_map, hp]
  rfl
theorem fits_of {hs : List Int} (T : TabOk t hs) {n : Nat} (e : hs.length = n) (l : n ≤ t.mask) : t.fits n = true := by
  have h1 := T.sz
  unfold SetTable.fits SetTable.fill
  rw [T.dm, Bool.and_eq_true, beq_iff_eq, decide_eq_true_eq]
  show t.place.size = n ∧ t.place.size + 0 ≤ t.mask
  omega
theorem SetK.fits (R : SetK w s.heap a L es ep t) : t.fits es.size = true := by
  rw [rows_len R.rows]
  exact fits_of R.tab (List.length_map ..) (by have := R.room; omega)
theorem gw_no (h : MaskOk t.mask) : ¬ t.gaveWay = true := by
  unfold SetTable.gaveWay
  rw [mask_odd h]
  decide
abbrev wayP (m : Nat) (g : Int) (c : Nat) : SetTable.Probe := nth m (runAt m (SetTable.bits g % (m + 1)) (SetTable.bits g)) c
theorem wayP_add (m : Nat) (g : Int) (c q : Nat) : nth m (wayP m g c) q = wayP m g (c + q) := (nth_add m c _ q).symm
theorem wayP_clean (m : Nat) (g : Int) (c : Nat) : (wayP m g c).dummy = none := by
  have key : ∀ (n : Nat) (p : SetTable.Probe), p.dummy = none → (nth m p n).dummy = none := by
    intro n
    induction n with
    | zero => intro p h; exact h
    | succ n ih =>
      intro p h
      refine ih (adv m p) ?_
      unfold adv
      split <;> exact h
  exact key c _ rfl
/-- what is not in it is not found -/
theorem search_k (R : SetK w s.heap a L es ep t) {x : Addr} {k : NestedKey} {g : Int} (hx : KyAt s.heap k x) (hu : A.units + 8 < cLine) {K : Nat} (hKf : K < 10 * SetTable.turns t.mask) (hK : way t.mask g K ∉ t.place.toList)
    (hKb : ∀ c, c < K → way t.mask g c ∈ t.place.toList) (hnew : ∀ p ∈ L, p.2 ≠ k) {Q : SetFound → Shared → Prop} (hout : Q (.free (way t.mask g K) false) s) :
    ∀ (f c : Nat) (stand : Option SetTable.Probe), stand.getD (t.probeStart g) = wayP t.mask g c → c ≤ K → K - c < f → wpAny (model P w) A (setSearchFrom a (.ref x) g true f stand) Q E s
  | 0, c, stand, _, _, hf => absurd hf (Nat.not_lt_zero _)
  | f + 1, c, stand, hst, hc, hf => by
    obtain ⟨o, ho, hex, hd⟩ := R.ob
    rw [setSearchFrom_succ]
    refine wpAny_bind (wpAny_setState_of ho hd R.fits ?_)
    dsimp only
    refine wp_if_neg (gw_no R.tab.mok) ?_
    try refine wpAny_bind (wpAny_pure ?_)
    have e1 : ∀ q, (nth t.mask (wayP t.mask g c) q).j = way t.mask g (c + q) := fun q => congrArg SetTable.Probe.j (wayP_add t.mask g c q)
    have spec := go_spec t R.tab.ris R.tab.dm (fun i => (es[i]?.map (·.1)).getD 0) g (10 * SetTable.turns t.mask) (K - c) _ (wayP_clean t.mask g c) (by omega)
      (fun q hq => by rw [e1]; exact hKb (c + q) (by omega)) (by rw [e1, show c + (K - c) = K by omega]; exact hK)
    rcases spec with ⟨q, i, hq, hi, hh, hno, hpr⟩ | ⟨hno, hpr⟩
    · have hpr' : t.probe (fun i => (es[i]?.map (·.1)).getD 0) g (stand.getD (t.probeStart g)) = some (.candidate (way t.mask g (c + q)) i (wayP t.mask g (c + (q + 1)))) := by
        rw [hst, ← e1, ← wayP_add]
        exact hpr
      rw [hpr']
      dsimp only
      rw [e1] at hi
      have hil : i < L.length := by
        have h1 : i < t.place.toList.length := (List.getElem?_eq_some_iff.mp hi).1
        have h2 := R.tab.sz
        rw [List.length_map] at h2
        rw [Array.length_toList] at h1
        omega
      have hp : L[i]? = some L[i] := List.getElem?_eq_getElem hil
      generalize hpe : L[i] = p at hp
      have hmem : p ∈ L := List.mem_of_getElem? hp
      have hpt := R.ky p hmem
      have hkk : p.2 ≠ k := hnew p hmem
      have rest : wpAny (model P w) A (searchRest a (.ref x) g true f es t (way t.mask g (c + q)) i (wayP t.mask g (c + (q + 1)))) Q E s := by
        unfold searchRest
        rw [rows_at R.rows hp]
        dsimp only [krow]
        refine wpAny_bind (wpAny_holding ((nestedKind P w).eqBool (x := p.2) (y := k) hu ⟨hpt.is, hpt.d8⟩ ⟨hx.is, hx.d8⟩ ?_))
        refine wpAny_bind (wpAny_setState_of ho hd R.fits ?_)
        dsimp only
        refine wp_if_neg (by simp [hkk]) ?_
        try refine wpAny_bind (wpAny_pure ?_)
        rw [sameMem]
        dsimp only
        have hsl : t.slot (way t.mask g (c + q)) = .live i := slot_live R.tab.ris hi
        simp only [if_true, hsl, rows_at R.rows hp, krow]
        refine wpAny_bind (wpAny_isSame_ref_self (wpAny_bind (wpAny_pure ?_)))
        simp only [if_true]
        refine wp_if_neg (by simp [hkk]) ?_
        exact search_k R hx hu hKf hK hKb hnew hout f (c + (q + 1)) _ rfl (by omega) (by omega)
      by_cases hl : t.led = true
      · refine wp_if_neg (by simp [hl]) ?_
        try refine wpAny_bind (wpAny_pure ?_)
        exact rest
      · refine wp_if_pos (by simp [hl]) ?_
        refine wpAny_bind (seen_ky hx (fun y hy => ?_) ?_)
        · obtain ⟨e, he, ee⟩ := List.mem_map.mp hy
          have he1 : e ∈ es ∧ e.1 = g := by simpa using he
          have he2 : e ∈ es.toList := by simpa using he1.1
          rw [R.rows] at he2
          obtain ⟨p2, hp2, e2⟩ := List.mem_map.mp he2
          refine ⟨p2.2, p2.1, ?_, R.ky p2 hp2⟩
          rw [← ee, ← e2]
          rfl
        · refine wp_if_neg (by decide) ?_
          try refine wpAny_bind (wpAny_pure ?_)
          exact rest
    · have hpr' : t.probe (fun i => (es[i]?.map (·.1)).getD 0) g (stand.getD (t.probeStart g)) = some (.empty (way t.mask g K) none) := by
        have e2 : way t.mask g K = (nth t.mask (wayP t.mask g c) (K - c)).j := by rw [e1, show c + (K - c) = K by omega]
        rw [hst, e2]
        exact hpr
      rw [hpr']
      dsimp only
      exact wpAny_pure hout
theorem search_new (R : SetK w s.heap a L es ep t) {x : Addr} {k : NestedKey} {g : Int} (hx : KyAt s.heap k x) (hu : A.units + 8 < cLine) (hnew : ∀ p ∈ L, p.2 ≠ k) {Q : SetFound → Shared → Prop}
    (hout : ∀ K, way t.mask g K ∉ t.place.toList → (∀ c, c < K → way t.mask g c ∈ t.place.toList) → Q (.free (way t.mask g K) false) s) : wpAny (model P w) A (setSearch a (.ref x) g true) Q E s := by
  have hroom := R.room
  obtain ⟨K, hKf, hK, hKb⟩ := R.tab.first (by rw [List.length_map]; omega) g
  have hbig : K < 100000 := by
    have : 10 * SetTable.turns t.mask ≤ 1420 := by
      unfold SetTable.turns
      rcases R.tab.mok with e | e | e <;> omega
    omega
  unfold setSearch
  exact search_k R hx hu hKf hK hKb hnew (hout K hK hKb) 100000 0 none rfl (Nat.zero_le _) (by omega)
/-- rows in another order -/
theorem order_of {β : Type} {f : β → Int × Value} {L : List β} {es : Array (Int × Value)} {order : Array Nat} (hr : es.toList = L.map f) (hp : order.toList.Perm (List.range L.length)) :
    ∃ Lz : List β, (order.filterMap (es[·]?)).toList = Lz.map f ∧ Lz.Perm L ∧ (Lz.map fun p => (f p).1) = order.toList.map fun i => (es.map (·.1)).getD i 0 := by
  have hsz : es.size = L.length := by
    have h := congrArg List.length hr
    rw [Array.length_toList, List.length_map] at h
    exact h
  have ent : ∀ i (h : i < L.length), es[i]? = some (f L[i]) := fun i h => by
    rw [← Array.getElem?_toList, hr, List.getElem?_map, List.getElem?_eq_getElem h]
    rfl
  have key : ∀ l : List Nat, (∀ i ∈ l, i < L.length) → ∃ Lz : List β, l.filterMap (fun i => es[i]?) = Lz.map f ∧ Lz = l.filterMap (fun i => L[i]?) ∧ (Lz.map fun p => (f p).1) = l.map fun i => (es.map (·.1)).getD i 0 := by
    intro l
    induction l with
    | nil => intro _; exact ⟨[], rfl, rfl, rfl⟩
    | cons i l ih =>
      intro hl
      have hi := hl i List.mem_cons_self
      obtain ⟨Lz, e1, e2, e3⟩ := ih fun j hj => hl j (List.mem_cons_of_mem _ hj)
      refine ⟨L[i] :: Lz, ?_, ?_, ?_⟩
      · rw [List.filterMap_cons_some (ent i hi), e1]
        rfl
      · rw [List.filterMap_cons_some (List.getElem?_eq_getElem hi), e2]
      · rw [List.map_cons, List.map_cons, e3]
        have e5 : (es.map (·.1))[i]? = some (f L[i]).1 := by rw [Array.getElem?_map, ent i hi]; rfl
        have e4 : (es.map (·.1)).getD i 0 = (f L[i]).1 := by simp [Array.getD_eq_getD_getElem?, e5]
        rw [e4]
  obtain ⟨Lz, e1, e2, e3⟩ := key order.toList fun i hi => List.mem_range.mp (hp.mem_iff.mp hi)
  refine ⟨Lz, by first | (rw [Array.toList_filterMap]; exact e1) | simpa using e1, ?_, e3⟩
  have h1 : Lz.Perm ((List.range L.length).filterMap fun i => L[i]?) := by
    rw [e2]
    exact hp.filterMap _
  have h2 : ∀ n, n ≤ L.length → (List.range n).filterMap (fun i => L[i]?) = L.take n := by
    intro n
    induction n with
    | zero => intro _; rfl
    | succ n ih =>
      intro hn
      have hlt : n < L.length := hn
      rw [List.range_succ, List.filterMap_append, ih (Nat.le_of_lt hlt), List.take_succ, List.getElem?_eq_getElem hlt, List.filterMap_cons_some (List.getElem?_eq_getElem hlt)]
      rfl
  rw [h2 L.length (Nat.le_refl _), List.take_length] at h1
  exact h1
theorem relay_k {o : Obj} (ho : s.heap.get? a = some o) (hex : o.ExactSet) (hd : o.data = .set es ep t) (hrows : es.toList = L.map (krow w)) (hsz : t.place.size = es.size) (hdm : t.dummies = #[]) (hfl : es.size ≤ t.mask)
    (ky : ∀ p ∈ L, KyAt s.heap p.2 p.1) (pl : t.plain = true) (ld : w.params.followText "set-order" = true ∨ t.led = true) (few : L.length < 64) {wanted M : Nat}
    (hw : SetTable.sizeAbove wanted - 1 = M) (hM : MaskOk M) (hw2 : SetTable.sizeAbove wanted ≤ 128) (hn : L.length * 5 < M * 3) {Q : Unit → Shared → Prop}
    (hQ : ∀ h' L' es' ep' t', Heap.SameBut a s.heap h' → SetK w h' a L' es' ep' t' → L'.Perm L → Q () { s with heap := h' }) : wpAny (model P w) A (setRelay a wanted) Q E s := by
  have hsl := rows_len hrows
  have hfits : t.fits es.size = true := by
    unfold SetTable.fits SetTable.fill
    rw [hdm, Bool.and_eq_true, beq_iff_eq, decide_eq_true_eq]
    show t.place.size = es.size ∧ t.place.size + 0 ≤ t.mask
    omega
  obtain ⟨t', order, e, hp, T, em, el, ep', ed⟩ := relaid_ok t (hs := es.map (·.1)) (wanted := wanted) hw hM (by rw [Array.size_map, hsl]; omega)
  rw [Array.size_map, hsl] at hp
  obtain ⟨Lz, r1, r2, r3⟩ := order_of hrows hp
  rw [← r3] at T
  have hs2 : (order.filterMap (es[·]?)).size = es.size := by
    rw [rows_len (w := w) r1, r2.length_eq, hsl]
  rw [setRelay_eq]
  refine wpAny_bind (wpAny_setState_of ho hd hfits ?_)
  dsimp only
  refine wp_if_neg (by rw [sizeLine_eq]; omega) ?_
  try refine wpAny_bind (wpAny_pure ?_)
  rw [e]
  dsimp only
  refine wpAny_bind ?_
  refine wp_if_neg (by rw [hs2]; simp) ?_
  try refine wpAny_bind (wpAny_pure ?_)
  refine wpAny_pure ?_
  dsimp only
  refine wpAny_storeSet_of ho hd ?_ (by rw [hs2, hsl, sizeLine_eq]; omega)
  have sb : Heap.SameBut a s.heap (s.heap.update a (Obj.putSet (order.filterMap (es[·]?)) t')) := Heap.SameBut.update ..
  refine hQ _ Lz (order.filterMap (es[·]?)) (ep + 1) t' sb ?_ r2
  refine ⟨⟨_, store_at ho hd, ⟨hex.1, hex.2.1, hex.2.2⟩, rfl⟩, r1, T, fun p hpm => (ky p (r2.mem_iff.mp hpm)).but ho hd sb, by rw [ep']; exact pl, by rw [el]; exact ld, ?_, by rw [r2.length_eq]; exact few⟩
  rw [r2.length_eq, em]
  exact hn
theorem put_perm' {α : Type} (L : List α) (p : Nat) (x : α) : (L.take p ++ x :: L.drop p).Perm (x :: L) := by
  have h : (L.take p ++ x :: L.drop p).Perm (x :: (L.take p ++ L.drop p)) := List.perm_middle
  rw [List.take_append_drop] at h
  exact h
/-- one more -/
theorem add_k (R : SetK w s.heap a L es ep t) {x : Addr} {k : NestedKey} (hx : KyAt s.heap k x) (hu : A.units + 8 < cLine) (hfew : L.length + 1 < 64) (hnew : ∀ p ∈ L, p.2 ≠ k) {Q : Bool → Shared → Prop}
    (hQ : ∀ b h' L' es' ep' t', Heap.SameBut a s.heap h' → SetK w h' a L' es' ep' t' → L'.Perm ((x, k) :: L) → Q b { s with heap := h' }) :
    wpAny (model P w) A (setAddHashed a (.ref x) (k.hash w)) Q E s := by
  obtain ⟨o, ho, hex, hd⟩ := R.ob
  have hsl := rows_len R.rows
  have hroom := R.room
  unfold setAddHashed
  refine wpAny_holding ?_
  rw [show (100000 : Nat) = 99999 + 1 from rfl, setAddHashedIn_succ]
  refine wpAny_bind (wpAny_setState_of ho hd R.fits ?_)
  dsimp only
  refine wp_if_neg (by simp [byScan, Value.scannable]) ?_
  try refine wpAny_bind (wpAny_pure ?_)
  refine wpAny_bind (search_new R hx hu hnew fun K hK hb => ?_)
  dsimp only
  refine wpAny_bind (wpAny_setState_of ho hd R.fits ?_)
  dsimp only
  obtain ⟨q1, q2, q3, q4, q5, q6, q7, q8, q9⟩ := R.tab.put hK hb
  have hp1 : (t.put (way t.mask (k.hash w) K)).1.plain = true := by rw [q6]; exact R.plain
  generalize hpt : t.put (way t.mask (k.hash w) K) = pt at q1 q3 q4 q5 q6 q7 q8 q9 hp1 ⊢
  obtain ⟨t1, p⟩ := pt
  dsimp only at q1 q3 q4 q5 q6 q7 q8 q9 hp1 ⊢
  subst q1
  first
    | (refine wpAny_bind ?_; refine wp_if_pos hp1 ?_; refine hbv_key k _ 8 s hx.is hx.d8 hx.nt _ _ _ ?_)
    | refine wp_if_pos hp1 (wpAny_bind (hbv_key k _ 8 s hx.is hx.d8 hx.nt _ _ _ ?_))
  simp only [if_true]
  have hin : (SetTable.insertAt es (SetTable.below t.place (way t.mask (k.hash w) K)) (k.hash w, Value.ref x)).toList = (L.take (SetTable.below t.place (way t.mask (k.hash w) K)) ++ (x, k) :: L.drop (SetTable.below t.place (way t.mask (k.hash w) K))).map (krow w) := by
    rw [SetTable.toList_insertAt, R.rows, List.map_append, List.map_cons, List.map_take, List.map_drop]
    rfl
  generalize hpp : SetTable.below t.place (way t.mask (k.hash w) K) = p at q2 q3 hin ⊢
  have pm := put_perm' L p (x, k)
  have hlen : (L.take p ++ (x, k) :: L.drop p).length = L.length + 1 := pm.length_eq
  have hhs : (L.take p ++ (x, k) :: L.drop p).map (fun p => p.2.hash w) = (L.map fun p => p.2.hash w).take p ++ k.hash w :: (L.map fun p => p.2.hash w).drop p := by
    rw [List.map_append, List.map_cons, List.map_take, List.map_drop]
  rw [← hhs] at q3
  have hes : (SetTable.insertAt es p (k.hash w, Value.ref x)).size = L.length + 1 := by
    rw [rows_len (w := w) hin, hlen]
  generalize SetTable.insertAt es p (k.hash w, Value.ref x) = es1 at hin hes ⊢
  generalize L.take p ++ (x, k) :: L.drop p = L1 at pm hlen q3 hin
  refine wpAny_bind (wpAny_storeSet_of ho hd ?_ (by rw [hes, sizeLine_eq]; omega))
  have sb : Heap.SameBut a s.heap (s.heap.update a (Obj.putSet es1 t1)) := Heap.SameBut.update ..
  have ho1 := store_at (es' := es1) (t' := t1) ho hd
  generalize s.heap.update a (Obj.putSet es1 t1) = h1 at sb ho1 ⊢
  have tup1 : ∀ p ∈ L1, KyAt h1 p.2 p.1 := fun p hp => by
    rcases List.mem_cons.mp (pm.mem_iff.mp hp) with e | hp
    · rw [e]; exact hx.but ho hd sb
    · exact (R.ky p hp).but ho hd sb
  have ld1 : w.params.followText "set-order" = true ∨ t1.led = true := by rw [q5]; exact R.led
  by_cases hf : t1.tooFull = true
  · first
      | (refine wpAny_bind ?_; refine wp_if_pos (by simp [hf]) ?_)
      | (refine wp_if_pos (by simp [hf]) ?_; refine wpAny_bind ?_)
    have hfull : (L.length + 1) * 5 ≥ t1.mask * 3 := by
      have h := hf
      unfold SetTable.tooFull at h
      rw [decide_eq_true_eq, q9, List.length_map] at h
      exact h
    rw [hsl]
    have hsz1 : t1.place.size = es1.size := by
      have h := q3.sz
      rw [List.length_map, hlen] at h
      rw [h, hes]
    have cases2 : (t.mask = 7 ∧ L.length = 4) ∨ (t.mask = 31 ∧ L.length = 18) := by
      rcases R.tab.mok with e | e | e
      · left; rw [q4, e] at hfull; rw [e] at hroom; exact ⟨e, by omega⟩
      · right; rw [q4, e] at hfull; rw [e] at hroom; exact ⟨e, by omega⟩
      · exfalso; rw [q4, e] at hfull; omega
    have go : ∀ M, SetTable.sizeAbove (SetTable.grown (L.length + 1)) - 1 = M → MaskOk M → SetTable.sizeAbove (SetTable.grown (L.length + 1)) ≤ 128 → (L.length + 1) * 5 < M * 3 →
        wpAny (model P w) A (setRelay a (SetTable.grown (L.length + 1))) (fun _ s' => wpAny (model P w) A (pure true) Q E s') E { s with heap := h1 } := fun M h1' h2' h3' h4' => by
      refine relay_k (s := { s with heap := h1 }) ho1 ⟨hex.1, hex.2.1, hex.2.2⟩ rfl hin hsz1 q3.dm (by rw [hes, q4]; rcases cases2 with ⟨e, e2⟩ | ⟨e, e2⟩ <;> omega) tup1 hp1 ld1 (by rw [hlen]; exact hfew) h1' h2' h3' (by rw [hlen]; exact h4') ?_
      intro h2 Lz es2 ep2 t2 sb2 R2 pm2
      exact wpAny_pure (hQ true h2 Lz es2 ep2 t2 (sb.trans sb2) R2 (pm2.trans pm))
    rcases cases2 with ⟨_, e2⟩ | ⟨_, e2⟩
    · exact go 31 (by rw [e2, size_20]) (.inr (.inl rfl)) (by rw [e2, size_20]; decide) (by omega)
    · exact go 127 (by rw [e2, size_76]) (.inr (.inr rfl)) (by rw [e2, size_76]; decide) (by omega)
  · first
      | refine wp_if_neg (by simp [hf]) ?_
      | (refine wpAny_bind ?_; refine wp_if_neg (by simp [hf]) ?_; refine wpAny_pure ?_)
    refine wpAny_pure (hQ true h1 L1 es1 (ep + 1) t1 sb ⟨⟨_, ho1, ⟨hex.1, hex.2.1, hex.2.2⟩, rfl⟩, hin, q3, tup1, hp1, ld1, ?_, by rw [hlen]; exact hfew⟩ pm)
    have h := hf
    unfold SetTable.tooFull at h
    rw [decide_eq_true_eq, q9, List.length_map] at h
    rw [hlen]
    omega
end
/-! ### len(set(xs)), xs a list of nested tuples of whole numbers that are all unlike -/
section
open PySem PySem.Spec PyProof.Rows
variable {P : Program} {w : World} {A : Around} {E : Value → Shared → Prop} {s : Shared}
theorem SetK.keep {h h' : Heap} {a : Addr} {L : List (Addr × NestedKey)} {es : Array (Int × Value)} {ep : Nat} {t : SetTable} (R : SetK w h a L es ep t) (ha : ∀ o, h.get? a = some o → h'.get? a = some o) (ht : ∀ p ∈ L, KyAt h' p.2 p.1) : SetK w h' a L es ep t := by
  obtain ⟨o, ho, r⟩ := R.ob
  exact ⟨⟨o, ha o ho, r⟩, R.rows, R.tab, ht, R.plain, R.led, R.room, R.few⟩
theorem setK_fresh {h : Heap} {a : Addr} (ho : h.get? a = some { cls := .type "set", dict := none, data := .set #[] 0 (.fresh 0 0 (!w.params.followText "set-order")) }) : SetK w h a [] #[] 0 (.fresh 0 0 (!w.params.followText "set-order")) where
  ob := ⟨_, ho, ⟨rfl, rfl, rfl⟩, rfl⟩
  rows := rfl
  tab := ⟨List.Pairwise.nil, rfl, rfl, .inl rfl, fun x hx => (by cases hx), fun i h j hi => (by simp at hi)⟩
  ky := fun p hp => (by cases hp)
  plain := rfl
  led := by
    show _ ∨ (!w.params.followText "set-order") = true
    cases w.params.followText "set-order"
    · exact .inr rfl
    · exact .inl rfl
  room := by
    show 0 * 5 < 7 * 3
    decide
  few := by
    show 0 < 64
    decide
theorem not_yet {ks L : List (Addr × NestedKey)} {i : Nat} {p : Addr × NestedKey} (nd : (ks.map (·.2)).Nodup) (pm : L.Perm (ks.take i)) (hp : ks[i]? = some p) : ∀ q ∈ L, q.2 ≠ p.2 := fun q mq e => by
  have m2 := pm.mem_iff.mp mq
  obtain ⟨j, hj⟩ := List.getElem?_of_mem m2
  rw [List.getElem?_take] at hj
  by_cases c : j < i
  · rw [if_pos c] at hj
    have hi' : i < (ks.map (·.2)).length := by rw [List.length_map]; exact (List.getElem?_eq_some_iff.mp hp).1
    have hj' : j < (ks.map (·.2)).length := by rw [List.length_map]; exact (List.getElem?_eq_some_iff.mp hj).1
    have z := List.pairwise_iff_getElem.mp nd j i hj' hi' c
    have e1 : (ks.map (·.2))[j]? = some q.2 := by rw [List.getElem?_map, hj]; rfl
    have e2 : (ks.map (·.2))[i]? = some p.2 := by rw [List.getElem?_map, hp]; rfl
    rw [List.getElem?_eq_getElem hj'] at e1
    rw [List.getElem?_eq_getElem hi'] at e2
    exact z ((Option.some.inj e1).trans (e.trans (Option.some.inj e2).symm))
  · rw [if_neg c] at hj; cases hj
theorem take_more {α : Type} {l L L' : List α} {i : Nat} {x : α} (h : l[i]? = some x) (pm : L.Perm (l.take i)) (pm' : L'.Perm (x :: L)) : L'.Perm (l.take (i + 1)) := by
  have e : l.take (i + 1) = l.take i ++ [x] := by rw [List.take_succ, h]; rfl
  rw [e]
  exact pm'.trans ((pm.cons x).trans (List.perm_append_singleton x _).symm)
/-- set.update's loop -/
theorem set_update_k {I : Addr} {fp wr : List Addr} {G : Array GenState → Array GenState → Prop} {n : Nat} {Pv : Nat → Value → Prop} {St : Nat → Shared → Prop} {R : Result → Shared → Prop}
    (W : WalksS P w A.in1 I fp wr G n Pv St) (S : Addr) (hSf : S ∉ fp) (ks : List (Addr × NestedKey)) (hn : n = ks.length) (hfew : ks.length < 64) (nd : (ks.map (·.2)).Nodup) (hval : ∀ i v, Pv i v → ∃ p, ks[i]? = some p ∧ v = .ref p.1)
    (h0 : Heap) (hk : ∀ p ∈ ks, KyAt h0 p.2 p.1) (hS0 : h0.get? S = none) (hw0 : ∀ b ∈ wr, h0.get? b = none) (hu : A.in1.units + 8 < cLine) :
    ∀ (k i : Nat) (s : Shared), n - i = k → i ≤ n → St i s → (∀ b o, h0.get? b = some o → s.heap.get? b = some o) → (∃ L es ep t, SetK w s.heap S L es ep t ∧ L.Perm (ks.take i)) →
      (∀ s' L es ep t, Moved (S :: wr) G s s' → SetK w s'.heap S L es ep t → L.Perm (ks.take n) → (∀ b o, h0.get? b = some o → s'.heap.get? b = some o) → R (.ok (.ret .none)) s') →
      codeAny (model P w) A (.builtin "set.update.loop" ⟨[.ref S, .ref I], []⟩) R s := by
  have hSw : S ∉ wr := fun h => hSf (W.sub _ h)
  have hsub : ∀ b ∈ wr, b ∈ S :: wr := fun b hb => List.mem_cons_of_mem _ hb
  have keepM : ∀ {s s' : Shared}, Moved wr G s s' → (∀ b o, h0.get? b = some o → s.heap.get? b = some o) → ∀ b o, h0.get? b = some o → s'.heap.get? b = some o := fun hm hkp b o e =>
    hm.heap b o (fun hb => by rw [hw0 b hb] at e; cases e) (hkp b o e)
  have up : ∀ {h : Heap} {p : Addr × NestedKey}, p ∈ ks → (∀ b o, h0.get? b = some o → h.get? b = some o) → KyAt h p.2 p.1 := fun m hkp => (hk _ m).keep fun c o _ _ e _ => hkp c o e
  intro k
  induction k with
  | zero =>
    intro i s hk' hi hst hkp ⟨L, es, ep, t, hS, g⟩ hR
    have hin : i = n := by omega
    subst hin
    refine codeAny_builtin F.entry_set_update_loop ?_
    rw [Around.under_plainId F.plain_set_update_loop _]
    show wpAny _ A.in1 (pyNext (.ref I) >>= _) _ _ s
    refine wpAny_bind (W.done s _ _ hst fun s' hm => ?_)
    show wpAny _ A.in1 (ret Value.none) _ _ s'
    have hkp' := keepM hm hkp
    have sub : ∀ p ∈ L, p ∈ ks := fun p hp => List.mem_of_mem_take (g.mem_iff.mp hp)
    exact wpAny_pure (hR s' L es ep t (hm.mono hsub) (hS.keep (fun o e => hm.heap S o hSw e) fun p hp => up (sub p hp) hkp') g hkp')
  | succ k ih =>
    intro i s hk' hi hst hkp ⟨L, es, ep, t, hS, g⟩ hR
    have hlt : i < n := by omega
    refine codeAny_builtin F.entry_set_update_loop ?_
    rw [Around.under_plainId F.plain_set_update_loop _]
    show wpAny _ A.in1 (pyNext (.ref I) >>= _) _ _ s
    refine wpAny_bind (W.item i s _ _ hlt hst fun v s' hP hst' hm => ?_)
    obtain ⟨p, hp, rfl⟩ := hval i v hP
    have hkp' := keepM hm hkp
    have sub : ∀ p ∈ L, p ∈ ks := fun p hp => List.mem_of_mem_take (g.mem_iff.mp hp)
    have hS' : SetK w s'.heap S L es ep t := hS.keep (fun o e => hm.heap S o hSw e) fun q hq => up (sub q hq) hkp'
    have hx : KyAt s'.heap p.2 p.1 := up (List.mem_of_getElem? hp) hkp'
    have hlen : L.length = i := by rw [g.length_eq, List.length_take]; omega
    show wpAny _ A.in1 (holding [Value.ref p.1] (setAdd S (.ref p.1)) >>= _) _ _ s'
    refine wpAny_bind (wpAny_holding ?_)
    unfold setAdd
    refine wpAny_holding ?_
    refine wpAny_bind ((nestedKind P w).pyHash (k := p.2) hu ⟨hx.is, hx.d8⟩ ?_)
    refine add_k (s := { s' with toks := s'.toks + (nestedKind P w).draws p.2 }) hS' hx hu (by omega) (not_yet nd g hp) fun b h' L' es' ep' t' hsb hS2 c => ?_
    have g' := take_more hp g c
    have hkp2 : ∀ b o, h0.get? b = some o → h'.get? b = some o := fun b o e => (hsb.2 b (fun z => by rw [z, hS0] at e; cases e)).trans (hkp' b o e)
    refine wpAny_pure ⟨plainId_quiet F.plain_set_update_loop _, ih (i + 1) _ (by omega) hlt (W.frame _ s' _ _ hst' (Nat.le_add_right _ _) fun b hb o e => ?_) hkp2 ⟨L', es', ep', t', hS2, g'⟩ fun s'' L2 es2 ep2 t2 hm'' hS'' g'' hkp'' => ?_⟩
    · rw [hsb.2 b (fun h : b = S => hSf (by rw [← h]; exact hb))]; exact e
    · refine hR s'' L2 es2 ep2 t2 (Moved.trans W.gtrans ((hm.mono hsub).then_heap (Nat.le_add_right _ _) fun b o hb e => ?_) hm'') hS'' g'' hkp''
      rw [hsb.2 b (fun h : b = S => hb (by rw [h]; exact List.mem_cons_self))]; exact e

set_option maxRecDepth 100000 in
set_option maxHeartbeats 3200000 in
/-- set(xs) -/
theorem call_set_k {l : Addr} {items : Array Value} (ks : List (Addr × NestedKey)) {Q : Value → Shared → Prop} (hh : A.handled = none) (hl : s.heap.IsList l items) (hit : items.toList = ks.map fun p => Value.ref p.1)
    (hk : ∀ p ∈ ks, KyAt s.heap p.2 p.1) (hfew : ks.length < 64) (nd : (ks.map (·.2)).Nodup) (hu : A.units + 12 < cLine)
    (h : ∀ (h' : Heap) (tk : Nat) L es ep t, SetK w h' s.heap.objs.size L es ep t → L.length = ks.length → (∀ b o, s.heap.get? b = some o → h'.get? b = some o) → Q (.ref s.heap.objs.size) { s with heap := h', toks := tk }) :
    wpAny (model P w) A (call (.type "set") [.ref l]) Q E s := by
  have hisz : items.size = ks.length := by
    have q := congrArg List.length hit
    rw [Array.length_toList, List.length_map] at q
    exact q
  obtain ⟨c, tl, hmro⟩ := F.called_set.mro
  have hmade := F.called_set.made
  have hsub := F.called_set.sub
  refine wpAny_call (codeAny_of_tree ?_)
  show wpAny _ _ (callAny (.type "set") _) _ _ _
  refine wpAny_pure ⟨Code.quiet_builtin _ (by decide +kernel), codeAny_builtin F.entry_type_call ?_⟩
  rw [Around.under_plain (weight_type_call_type "set" [.ref l] []) rfl]
  have h1 := F.called_set.notType
  have h2 := F.called_set.canCreate
  have hct := F.typeCall_set_1 (.ref l)
  repeat (any_goals (first | assumption | wp_step))
  refine codeAny_mono (code_set_led1 (.ref l) (E := E) (Q₁ := fun obj s₁ => obj = .ref s.heap.objs.size ∧ s₁ = { s with heap := s.heap.push { cls := .type "set", dict := none, data := .set #[] 0 (.fresh 0 0 (!w.params.followText "set-order")) } }) ⟨rfl, rfl⟩) fun r s₁ hr => ?_
  cases r with
  | error e => exact hr
  | ok fl =>
    cases fl with
    | ret obj =>
      obtain ⟨rfl, rfl⟩ := hr
      have hS : (s.heap.push { cls := .type "set", dict := none, data := .set #[] 0 (.fresh 0 0 (!w.params.followText "set-order")) }).get? s.heap.objs.size = some { cls := .type "set", dict := none, data := .set #[] 0 (.fresh 0 0 (!w.params.followText "set-order")) } := Heap.get?_push_size _ rfl
      have hT : Shared.TypeIs { s with heap := s.heap.push { cls := .type "set", dict := none, data := .set #[] 0 (.fresh 0 0 (!w.params.followText "set-order")) } } (.ref s.heap.objs.size) "set" := ⟨_, hS, rfl⟩
      have hli := F.called_set.init.lookup
      have hbi := F.called_set.init.bind (.ref s.heap.objs.size)
      repeat (any_goals (first | assumption | wp_step))
      refine codeAny_mono (codeAny_call_builtin (R := wants (fun r s₂ => r = .none ∧ ∃ h' tk L es ep t, s₂ = { s with heap := h', toks := tk } ∧ SetK w h' s.heap.objs.size L es ep t ∧ L.length = ks.length ∧
          (∀ b o, s.heap.get? b = some o → h'.get? b = some o)) E) F.called_set.init.plain F.entry_set_init (check_set_init_1 hT ?_)) fun r₂ s₂ hr₂ => ?_
      · obtain ⟨ol, hol, hcl, nl, hdl⟩ := hl
        obtain ⟨ocls, odict, odata, oslots⟩ := ol
        simp only at hcl hdl
        subst hcl; subst hdl
        have hol' : (s.heap.push { cls := .type "set", dict := none, data := .set #[] 0 (.fresh 0 0 (!w.params.followText "set-order")) }).get? l = some { cls := .type "list", dict := odict, data := .seq items nl, slots := oslots } := Heap.get?_push_of_some _ hol
        have hsls := F.sub_list_set
        have hslf := F.sub_list_frozenset
        have hne : (Value.type "list" == Value.type "dict") = false := by decide
        have hl1 : (s.heap.push { cls := .type "set", dict := none, data := .set #[] 0 (.fresh 0 0 (!w.params.followText "set-order")) }).IsList l items := ⟨_, hol', rfl, nl, rfl⟩
        unfold Builtin.«set.__init__» noKeywords Builtin.Frozenset.updateFrom
        generalize hPI : pyIter = PI
        wp_walk
        subst hPI
        refine wpAny_pyIter_list hl1 ?_
        refine wpAny_bind (wpAny_runValue ?_)
        have hlS : l < s.heap.objs.size := Heap.lt_size hol
        have hh3 : A.in1.in1.in1.handled = none := by simp [hh]
        have hneI : l ≠ (s.heap.push { cls := .type "set", dict := none, data := .set #[] 0 (.fresh 0 0 (!w.params.followText "set-order")) }).objs.size := by
          rw [Heap.size_push]; exact Nat.ne_of_lt (Nat.lt_succ_of_lt hlS)
        have hSf : s.heap.objs.size ∉ [(s.heap.push { cls := .type "set", dict := none, data := .set #[] 0 (.fresh 0 0 (!w.params.followText "set-order")) }).objs.size, l] := by
          rw [Heap.size_push]; simp only [List.mem_cons, List.mem_singleton, List.not_mem_nil, or_false, not_or]
          exact ⟨Nat.ne_of_lt (Nat.lt_succ_self _), Nat.ne_of_gt hlS⟩
        have hval : ∀ (i : Nat) (v : Value), items[i]? = some v → ∃ p, ks[i]? = some p ∧ v = .ref p.1 := fun i v hv => by
          have q : items.toList[i]? = some v := by rw [Array.getElem?_toList]; exact hv
          rw [hit, List.getElem?_map] at q
          obtain ⟨p, hp, e⟩ := Option.map_eq_some_iff.mp q
          exact ⟨p, hp, e.symm⟩
        have none_of : ∀ b, s.heap.objs.size ≤ b → s.heap.get? b = none := fun b hb => by
          cases q : s.heap.get? b with
          | none => rfl
          | some o => exact absurd (Nat.lt_of_lt_of_le (Heap.lt_size q) hb) (Nat.lt_irrefl _)
        refine set_update_k ((Walks.list hh3 _ l hneI items).toS) s.heap.objs.size
          hSf ks hisz hfew nd hval s.heap hk (none_of _ (Nat.le_refl _)) (fun b hb => none_of b (by
            rw [List.mem_singleton.mp hb, Heap.size_push]
            exact Nat.le_succ _)) (by simp only [Around.in1_units]; omega) (items.size - 0) 0 _ (by omega) (Nat.zero_le _)
          ⟨⟨_, Heap.get?_push_size _ rfl, rfl, rfl⟩, (hl1.push _)⟩ (fun b o e => Heap.get?_push_of_some _ (Heap.get?_push_of_some _ e)) ?hS0 ?hR
        case hS0 =>
          have hget : ((s.heap.push { cls := .type "set", dict := none, data := .set #[] 0 (.fresh 0 0 (!w.params.followText "set-order")) }).push { cls := .type "list_iterator", data := .fields #[.ref l, .int 0 0] }).get? s.heap.objs.size
              = some { cls := .type "set", dict := none, data := .set #[] 0 (.fresh 0 0 (!w.params.followText "set-order")) } := Heap.get?_push_of_some _ hS
          exact ⟨[], #[], 0, _, setK_fresh hget, List.Perm.refl _⟩
        case hR =>
          intro s' L es ep t hm hS' g' hkp
          obtain ⟨h', g2, d', tk', os'⟩ := s'
          have eg : g2 = s.gens := hm.gens
          have ed : d' = s.drawn := hm.drawn
          have eo : os' = s.os := hm.os
          subst eg; subst ed; subst eo
          show wpAny _ _ _ _ _ _
          refine wpAny_pure ?_
          show wpAny _ _ (ret Value.none) _ _ _
          exact wpAny_pure ⟨rfl, h', tk', L, es, ep, t, rfl, hS', by rw [g'.length_eq, List.length_take]; omega, hkp⟩
      · cases r₂ with
        | error e => exact hr₂
        | ok fl₂ =>
          cases fl₂ with
          | ret r =>
            obtain ⟨rfl, h', tk, L, es, ep, t, rfl, hS', g', hk'⟩ := hr₂
            repeat (any_goals (first | assumption | wp_step))
            exact h _ _ _ _ _ _ hS' g' hk'
          | _ => exact hr₂.elim
    | _ => exact hr.elim
end
/-- x, a new tuple's place, is such a datum -/
def KdV (K : PySem.W.Frag) (H : Hp) (x : V) (d : PyData) : Prop := (∃ b, x = .ref b) ∧ Dp K H x d ∧ kable d = true ∧ d.depth ≤ 8 ∧ noText (keyD d) = true
section
open PySem.Spec
variable {X : Cx}
def tLenSetN (K : PySem.W.Frag) (ta : TE) : TE := fun σ H Q => ta σ H fun x H1 => ∃ (l : Addr) (xs : List V) (ds : List PyData), x = V.ref l ∧ SqL K H1 l xs ∧ Paired (KdV K H1) xs ds ∧ xs.length < 64 ∧ (ds.map keyD).Nodup ∧ Q (.int xs.length) H1
theorem ks_of {pins : List (Addr × Obj)} {σ : St} {H : Hp} {s : Shared} (I : Inv X pins σ H s) : ∀ {xs : List V} {ds : List PyData} {us : List Value}, Paired (KdV X.K H) xs ds → Vals xs us → ∃ ks : List (Addr × NestedKey), us = ks.map (fun p => Value.ref p.1) ∧ ks.map (·.2) = ds.map keyD ∧ ∀ p ∈ ks, KyAt s.heap p.2 p.1
  | [], _, _, .nil, .nil => ⟨[], rfl, rfl, fun _ m => absurd m List.not_mem_nil⟩
  | x :: xs, d :: ds, u :: us, .cons h t, .cons r rt => by
    obtain ⟨⟨b, rfl⟩, hd, kd, d8, nt⟩ := h
    obtain ⟨ks, e1, e2, e3⟩ := ks_of I t rt
    have hk := key_at I d _ _ kd hd r
    cases r
    refine ⟨(b, keyD d) :: ks, by rw [List.map_cons, ← e1], by rw [List.map_cons, List.map_cons, e2], fun p m => ?_⟩
    rcases List.mem_cons.mp m with e | m
    · rw [e]; exact ⟨hk, Nat.le_trans (keyD_depth d) d8, nt⟩
    · exact e3 p m
theorem pe_lenSetN {a : Expr} {ta : TE} {p p2 q pos : Pos} (hc : X.calm = true) (hu : X.A.units + 64 < cLine) (hg : Gl X "len") (hm : X.mg "len" = none) (hg2 : Gl X "set") (hm2 : X.mg "set" = none) (ha : PE X a ta)
    (na : starEach [a] X.env = (false, eval a X.env) :: starEach [] X.env := by rfl) : PE X (.Call (.Name "len" p) [.Call (.Name "set" p2) [a] [] q] [] pos) (tLenSetN X.K ta) := by
  refine ⟨fun pins s σ H Q I h => ?_⟩
  refine PyProof.Rows.Call_ (ld_blt I hg hm PySem.boot_len ?_)
  refine PyProof.Rows.callWith_builtin1 (PyProof.Rows.args_cons ?_ rfl) rfl rfl
  refine PyProof.Rows.Call_ (ld_blt I hg2 hm2 PyProof.Rows.boot_set ?_)
  refine PyProof.Rows.callWith_type1 (PyProof.Rows.args_cons (thn (ha.run pins s σ H _ I h) fun v s1 ⟨x, H1, I1, r1, q1⟩ => PyProof.Rows.args_nil ?_) na) na rfl
  obtain ⟨l, xs, ds, rfl, hq, pd, h1, hnd, q1⟩ := q1
  cases r1
  obtain ⟨its, r, pl, hz⟩ := I1.list hq
  obtain ⟨ks, e1, e2, e3⟩ := ks_of I1 pd r
  have hl : ks.length = xs.length := by rw [r.length, e1, List.length_map]
  refine call_set_k (P := X.prog) (w := X.w) ks (I1.ok.hd hc) pl.isList (by simpa using e1) e3 (by omega) (by rw [e2]; exact hnd) (by omega) fun h' tk L es ep t R g hk => ?_
  refine PyProof.Rows.args_nil ?_
  obtain ⟨o, ho, hex, hd⟩ := R.ob
  have I2 : Inv X pins σ H1 { s1 with heap := h', toks := tk } := I1.kept fun b o e => hk b o e
  have hn : es.size = xs.length := by rw [rows_len R.rows, g, hl]
  refine call_len_set ho hex hd (R.fits (s := { s1 with heap := h' })) (by omega) ⟨.int xs.length, H1, I2.tok _, ⟨_, by rw [hn]⟩, q1⟩
end
/-! ### an entry -/
def entAt (M : Mach) (r s : Int) : Ent := (((M[r.toNat]?).getD [])[s.toNat]?).getD .emp
/-! ### strides told, and runs -/
theorem look_perm {l m : List PI} (h : Nd l) (p : l.Perm m) (x : Int) : look l x = look m x := by
  have hm : Nd m := (p.map (fun q : PI => q.a)).nodup_iff.mp h
  cases e : look m x with
  | some v => exact look_mem h (p.mem_iff.mpr (mem_look e))
  | none =>
    cases f : look l x with
    | none => rfl
    | some v =>
      have : look m x = some v := look_mem hm (p.mem_iff.mp (mem_look f))
      rw [e] at this; cases this
theorem gz_told {l : List PI} (h : Nd l) (x : Int) : gz (told l) x = gz l x := by
  have hf : Nd (l.filter nz) := List.Sublist.nodup (List.Sublist.map _ List.filter_sublist) h
  unfold gz
  rw [(ZRel.filt h).lk x]
  unfold told
  rw [look_perm (nd_srt hf) (srt_perm _) x]
theorem told_nd {l : List PI} (h : Nd l) : Nd (told l) := nd_srt (List.Sublist.nodup (List.Sublist.map _ List.filter_sublist) h)
/-! ### rings and drifts go on (plain) -/
theorem gz_put (l : List PI) (x v y : Int) : gz (put l x v) y = if y = x then v else gz l y := by
  unfold gz
  rw [look_put]
  by_cases h : y = x
  · rw [if_pos h, if_pos h]; rfl
  · rw [if_neg h, if_neg h]
def Never (M : Mach) : Prop := ∀ n, ∃ c, stepsC M n = some c
theorem Never.gone {M : Mach} {n k : Nat} {c : Cfg} (h : Never M) (g : Gone M n k c) : entOf M c ≠ .emp := fun e => by
  obtain ⟨d, hd⟩ := h (k + 1)
  rw [stepsC_next g.stp, stepC_none.mpr e] at hd
  cases hd
theorem ent_gz {M : Mach} {c : Cfg} : entOf M c = entAt M c.r (gz c.l c.s) := rfl
/-- two setups that read the same do the same -/
theorem step_sh {M : Mach} {a b a' : Cfg} {d : Int} (e : a.r = b.r) (s : b.s = a.s + d) (g : gz a.l a.s = gz b.l b.s) (h : stepC M a = some a') : ∃ b', stepC M b = some b' ∧ a'.r = b'.r ∧ b'.s = a'.s + d ∧ ∀ x, gz a.l x = gz b.l (x + d) → gz a'.l x = gz b'.l (x + d) := by
  have ee : entOf M b = entOf M a := by rw [ent_gz, ent_gz, ← e, ← g]
  cases k : entOf M a with
  | emp =>
    rw [stepC_none.mpr k] at h
    cases h
  | go p w r =>
    rw [stepC_go k] at h
    cases h
    rw [k] at ee
    refine ⟨_, stepC_go ee, rfl, by show b.s + w = a.s + w + d; omega, fun x z => ?_⟩
    show gz (put a.l a.s p) x = gz (put b.l b.s p) (x + d)
    rw [gz_put, gz_put]
    by_cases y : x = a.s
    · rw [if_pos y, if_pos (by omega)]
    · rw [if_neg y, if_neg (by omega)]; exact z
/-- led along by d on a side `P` of the strip: what is read behind f is all there -/
theorem led {M : Mach} {f l : Nat} {d : Int} {a b : Cfg} (P : Int → Prop) (fl : f < l) (ha : stepsC M f = some a) (hb : stepsC M l = some b) (er : a.r = b.r) (es : b.s = a.s + d) (eg : ∀ x, P x → gz a.l x = gz b.l (x + d)) (pd : ∀ x, P x → P (x + d)) (pr : ∀ i c, f ≤ i → i < l → stepsC M i = some c → P c.s) :
    ∀ n, ∃ A B, stepsC M (f + n) = some A ∧ stepsC M (l + n) = some B ∧ A.r = B.r ∧ B.s = A.s + d ∧ P A.s ∧ ∀ x, P x → gz A.l x = gz B.l (x + d) := by
  have key : ∀ n j, j ≤ n → ∃ A B, stepsC M (f + j) = some A ∧ stepsC M (l + j) = some B ∧ A.r = B.r ∧ B.s = A.s + d ∧ P A.s ∧ ∀ x, P x → gz A.l x = gz B.l (x + d) := by
    intro n
    induction n with
    | zero =>
      intro j hj
      rw [show j = 0 by omega]
      exact ⟨a, b, ha, hb, er, es, pr f a (Nat.le_refl _) fl ha, eg⟩
    | succ n ih =>
      intro j hj
      by_cases c : j ≤ n
      · exact ih j c
      obtain ⟨A, B, h1, h2, h3, h4, h5, h6⟩ := ih n (Nat.le_refl _)
      have ej : j = n + 1 := by omega
      subst ej
      obtain ⟨A', hA'⟩ : ∃ A', stepsC M (f + (n + 1)) = some A' := by
        obtain ⟨c', h⟩ := stepsC_le h2 (show f + (n + 1) ≤ l + n by omega)
        exact ⟨c', h⟩
      have sA : stepC M A = some A' := by rw [← stepsC_next h1]; exact hA'
      obtain ⟨B', sB, k1, k2, k3⟩ := step_sh h3 h4 (by rw [h6 _ h5, h4]) sA
      have hB' : stepsC M (l + (n + 1)) = some B' := by rw [← sB]; exact stepsC_next h2
      refine ⟨A', B', hA', hB', k1, k2, ?_, fun x px => k3 x (h6 x px)⟩
      by_cases z : f + (n + 1) < l
      · exact pr _ _ (by omega) z hA'
      · obtain ⟨A0, B0, g1, g2, _, g4, g5, _⟩ := ih (f + (n + 1) - l) (by omega)
        rw [show l + (f + (n + 1) - l) = f + (n + 1) by omega, hA'] at g2
        cases g2
        rw [g4]
        exact pd _ g5
  exact fun n => key n n (Nat.le_refl _)
/-- led by d from each moment behind f; where the whole strip is the same, it is told the same -/
structure LedBy (M : Mach) (f l : Nat) (d : Int) (whole : Prop) : Prop where
  fl : f < l
  at' : ∀ n, ∃ A B, stepsC M (f + n) = some A ∧ stepsC M (l + n) = some B ∧ A.r = B.r ∧ B.s = A.s + d ∧ (whole → told A.l = told B.l)
theorem LedBy.never {M : Mach} {f l : Nat} {d : Int} {w : Prop} (h : LedBy M f l d w) : Never M := fun n => by
  obtain ⟨A, B, h1, h2, _⟩ := h.at' n
  exact stepsC_le h2 (by omega)
theorem told_of_gz {l m : List PI} (hl : Nd l) (hm : Nd m) (e : ∀ x, gz l x = gz m x) : told l = told m := by
  have z : ZRel l (told m) := ⟨hl, told_nd hm, fun q k => of_decide_eq_true (List.mem_filter.mp (mem_srt.mp k)).2, fun x => (e x).trans (gz_told hm x).symm⟩
  have z2 : ZRel m (told m) := ⟨hm, told_nd hm, fun q k => of_decide_eq_true (List.mem_filter.mp (mem_srt.mp k)).2, fun x => (gz_told hm x).symm⟩
  rw [z.told, ← z2.told]
theorem ring_led {M : Mach} {R S f l : Nat} (hM : MOk M R S) (fl : f < l) (h : SameAt M f l) : LedBy M f l 0 True := by
  obtain ⟨a, b, ha, hb, e⟩ := h
  unfold sameC at e
  rw [Bool.and_eq_true, Bool.and_eq_true] at e
  obtain ⟨⟨e1, e2⟩, e3⟩ := e
  have e1 := of_decide_eq_true e1
  have e2 := of_decide_eq_true e2
  have e3 := of_decide_eq_true e3
  refine ⟨fl, fun n => ?_⟩
  obtain ⟨A, B, h1, h2, h3, h4, _, h6⟩ := led (d := 0) (fun _ => True) fl ha hb e1 (by omega) (fun x _ => by rw [Int.add_zero, ← gz_told (stepsC_ok hM ha).1.nd, e3, gz_told (stepsC_ok hM hb).1.nd]) (fun _ _ => trivial) (fun _ _ _ _ _ => trivial) n
  exact ⟨A, B, h1, h2, h3, h4, fun _ => told_of_gz (stepsC_ok hM h1).1.nd (stepsC_ok hM h2).1.nd fun x => by have := h6 x trivial; rwa [Int.add_zero] at this⟩
theorem drift_led {M : Mach} {f l : Nat} (fl : f < l) (h : DriftAt M f l) : ∃ d, LedBy M f l d False := by
  obtain ⟨a, b, ha, hb, er, es, eg⟩ := h
  rcases Int.lt_or_gt_of_ne es with c | c
  · refine ⟨b.s - a.s, fl, fun n => ?_⟩
    obtain ⟨A, B, h1, h2, h3, h4, _⟩ := led (d := b.s - a.s) (fun x => ∃ i c, f ≤ i ∧ i < l ∧ stepsC M i = some c ∧ c.s ≤ x) fl ha hb er (by omega) (fun x p => eg x (.inl ⟨c, p⟩)) (fun x ⟨i, c', h1, h2, h3, h4⟩ => ⟨i, c', h1, h2, h3, by omega⟩) (fun i c' h1 h2 h3 => ⟨i, c', h1, h2, h3, Int.le_refl _⟩) n
    exact ⟨A, B, h1, h2, h3, h4, fun z => z.elim⟩
  · refine ⟨b.s - a.s, fl, fun n => ?_⟩
    obtain ⟨A, B, h1, h2, h3, h4, _⟩ := led (d := b.s - a.s) (fun x => ∃ i c, f ≤ i ∧ i < l ∧ stepsC M i = some c ∧ x ≤ c.s) fl ha hb er (by omega) (fun x p => eg x (.inr ⟨c, p⟩)) (fun x ⟨i, c', h1, h2, h3, h4⟩ => ⟨i, c', h1, h2, h3, by omega⟩) (fun i c' h1 h2 h3 => ⟨i, c', h1, h2, h3, Int.le_refl _⟩) n
    exact ⟨A, B, h1, h2, h3, h4, fun z => z.elim⟩
/-- round after round -/
theorem LedBy.round {M : Mach} {f l : Nat} {d : Int} {w : Prop} (h : LedBy M f l d w) {c0 : Cfg} (h0 : stepsC M f = some c0) : ∀ k : Nat, ∃ c, stepsC M (f + k * (l - f)) = some c ∧ c.r = c0.r ∧ c.s = c0.s + k * d ∧ (w → told c.l = told c0.l) := by
  have fl := h.fl
  intro k
  induction k with
  | zero => exact ⟨c0, by rw [Nat.zero_mul]; exact h0, rfl, by rw [Int.natCast_zero, Int.zero_mul, Int.add_zero], fun _ => rfl⟩
  | succ k ih =>
    obtain ⟨c, h1, h2, h3, h4⟩ := ih
    obtain ⟨A, B, g1, g2, g3, g4, g5⟩ := h.at' (k * (l - f))
    rw [h1] at g1
    cases g1
    refine ⟨B, by rw [show f + (k + 1) * (l - f) = l + k * (l - f) by rw [Nat.add_mul, Nat.one_mul]; omega]; exact g2, g3.symm.trans h2, ?_, fun z => (g5 z).symm.trans (h4 z)⟩
    rw [g4, h3, Int.natCast_add, Int.add_mul, Int.natCast_one, Int.one_mul, Int.add_assoc]
/-- what never ends stands there behind so many steps -/
theorem Never.at {M : Mach} (h : Never M) {n k : Nat} {c : Cfg} (g : Gone M n k c) : k = n ∧ entOf M c ≠ .emp := by
  refine ⟨?_, h.gone g⟩
  rcases g.fin with e | e
  · exact absurd (stepC_none.mp e) (h.gone g)
  · exact e
theorem Never.goes {M : Mach} (h : Never M) (l : Nat) : Goes M l := by
  obtain ⟨c, hc⟩ := h (l + 1)
  exact Goes.of hc (Nat.lt_succ_self l)
/-! ### a ring or a drift goes on for two rounds more -/
theorem gr_upq {F H F1 H1 : Hp} (g : Gr mu0 F H F1 H1) : Same H H1 := fun c o h => g.fr c o h (fun z => z)
theorem gr_sameq {F H H1 : Hp} (f : Same F H) (s : Same H H1) : Gr mu0 F H F H1 := ⟨fun _ _ h => h, fun c o h => s _ _ (f _ _ h), fun _ _ h => .inl h, fun c o h _ => s _ _ h, fun c h => s.free h⟩
theorem run_sp {G : Hp} {m : V} {M : Mach} {R S n : Nat} {Q : VK} {E : XK} (nv : Never M) (hm : Is G m M) (hM : MOk M R S) (hn : n ≤ 5000)
    (q : ∀ (G' : Hp) (v u l : Addr) (xs : List V) (c : Cfg), Same G G' → stepsC M n = some c → G' v = some (.tup [.str tOn.x, .int n, .ref u]) → G' u = some (.tup [.int c.r, .int c.s, .ref l]) → G' l = some (.lst xs) → IsAll G' xs (told c.l) → Q (.ref v) G') : sp_run [m, .int n] G Q E :=
  ⟨G, m, M, R, S, n, rfl, Same.refl G, hm, hM, hn, fun F' H' l u v xs k c g go wl al wu wv => by
    obtain ⟨e1, e2⟩ := nv.at go
    subst e1
    have ed : dueOf M k k c = ⟨tOn, k, c.r, c.s, told c.l⟩ := by unfold dueOf; rw [if_neg e2]
    rw [ed] at wv
    exact q H' v u l xs c (gr_upq g) go.stp wv.h wu.h wl.h (IsAll.up al g.fh)⟩
def kdR (rg : Bool) : TStr := if rg then tRing else tDrift
def sp_L_goes_round : Sp := fun vs H Q _ => ∃ (F : Hp) (m : V) (a : Addr) (M : Mach) (R S f l : Nat) (rg : Bool), vs = [m, .ref a] ∧ Same F H ∧ Is F m M ∧ MOk M R S ∧ F a = some (.tup [.str (kdR rg).x, .int f, .int l]) ∧ f < l ∧ l ≤ 61 ∧ (if rg = true then SameAt M f l else DriftAt M f l) ∧
  ∀ (H' : Hp), Gr mu0 F H F H' → Q (.bl true) H'
theorem ok_L_goes_round (t : Tx K mg) : FnOk P w K mg base CX0 7 t.a_L_goes_round t.fd_L_goes_round ["_law_machine_here", "_law_paper"] sp_L_goes_round := by
  refine t.F_L_goes_round.ok sc_L_goes_round (fun vs H Q E h => ?_) (fun cdv A outer s H vs Q E hr h => ?_)
  · obtain ⟨F, m, a, M, R, S, f, l, rg, rfl, _⟩ := h
    rfl
  · obtain ⟨F, m, a, M, R, S, f, l, rg, rfl, sF, hm, hM, ha, fl, l61, hs, q⟩ := h
    refine ⟨_, (pss_cons (ps_asg (pv 1) (pg_tup rfl (pgs_cons (pg_name (i := 2) sc_L_goes_round.nd rfl (by first | exact Or.inl rfl | exact Or.inr rfl)) (pgs_cons (pg_name (i := 3) sc_L_goes_round.nd rfl (by first | exact Or.inl rfl | exact Or.inr rfl)) (pgs_cons (pg_name (i := 4) sc_L_goes_round.nd rfl (by first | exact Or.inl rfl | exact Or.inr rfl)) pgs_nil)))))
      (pss_cons (ps_set (i := 5) sc_L_goes_round.nd rfl (by first | exact Or.inl rfl | exact Or.inr rfl) (pe_op op_sub (pv 4) (pv 3)))
      (pss_cons (ps_set (i := 6) sc_L_goes_round.nd rfl (by first | exact Or.inl rfl | exact Or.inr rfl) (pe_call (ok_run t) (hr.mono (by decide)) (by rfl) t.m_run t.F_run.kp t.b_run .nil pass0 (pa_cons (pv 0) (pa_cons (pe_op op_add (pv 3) (pv 5)) pa_nil))))
      (pss_cons (ps_for PassesOwn.never rfl (pi_range2 (by rfl) t.n_range (pa_cons pe_int (pa_cons pe_int pa_nil))) (pg_name (i := 7) sc_L_goes_round.nd rfl (by first | exact Or.inl rfl | exact Or.inr rfl)) (pss_cons (ps_set (i := 8) sc_L_goes_round.nd rfl (by first | exact Or.inl rfl | exact Or.inr rfl) (pe_call (ok_run t) (hr.mono (by decide)) (by rfl) t.m_run t.F_run.kp t.b_run .nil pass0 (pa_cons (pv 0) (pa_cons (pe_op op_add (pv 3) (pe_op op_mul (pv 7) (pv 5))) pa_nil))))
      (pss_cons (ps_if (PW.pt (pw_or (pt_cmpR op_ne (pe_ix ix_tup (pv 8) pe_int (fun _ _ => rfl)) pe_str (nomark _)) (pw_or1 (pt_cmpR op_ne (pe_ix ix_tup (pe_ix ix_tup (pv 8) pe_int (fun _ _ => rfl)) pe_int (fun _ _ => rfl)) (pe_ix ix_tup (pe_ix ix_tup (pv 6) pe_int (fun _ _ => rfl)) pe_int (fun _ _ => rfl)) (nomark _))))) (pss_one (ps_ret pe_bl)) pss_nil)
      (pss_one (ps_if (PW.pt (pw_and (pt_cmpR op_eq (pv 2) pe_str (nomark _)) (pw_and1 (pt_cmpR (op_neD hr.units) (pe_ix ix_tup (pv 8) pe_int (fun _ _ => rfl)) (pe_ix ix_tup (pv 6) pe_int (fun _ _ => rfl)) (nomark _))))) (pss_one (ps_ret pe_bl)) pss_nil)))))
      (pss_cons (ps_set (i := 9) sc_L_goes_round.nd rfl (by first | exact Or.inl rfl | exact Or.inr rfl) (pe_op op_sub (pe_ix ix_tup (pe_ix ix_tup (pe_call (ok_run t) (hr.mono (by decide)) (by rfl) t.m_run t.F_run.kp t.b_run .nil pass0 (pa_cons (pv 0) (pa_cons (pv 4) pa_nil))) pe_int (fun _ _ => rfl)) pe_int (fun _ _ => rfl)) (pe_ix ix_tup (pe_ix ix_tup (pe_call (ok_run t) (hr.mono (by decide)) (by rfl) t.m_run t.F_run.kp t.b_run .nil pass0 (pa_cons (pv 0) (pa_cons (pv 3) pa_nil))) pe_int (fun _ _ => rfl)) pe_int (fun _ _ => rfl))))
      (pss_cons (ps_if (PW.pt (pw_and (pt_cmpR op_eq (pv 2) pe_str (nomark _)) (pw_and1 (pt_cmpR op_ne (pe_ix ix_tup (pe_ix ix_tup (pe_call (ok_run t) (hr.mono (by decide)) (by rfl) t.m_run t.F_run.kp t.b_run .nil pass0 (pa_cons (pv 0) (pa_cons (pe_op op_add (pv 3) (pe_op op_mul pe_int (pv 5))) pa_nil))) pe_int (fun _ _ => rfl)) pe_int (fun _ _ => rfl)) (pe_op op_add (pe_ix ix_tup (pe_ix ix_tup (pv 6) pe_int (fun _ _ => rfl)) pe_int (fun _ _ => rfl)) (pe_op op_mul pe_int (pv 9))) (nomark _))))) (pss_one (ps_ret pe_bl)) pss_nil)
      (pss_one (ps_ret (pe_and (pe_cmpR op_is_bl (pe_call (ok_shows t) (hr.mono (by decide)) (by rfl) t.m_shows t.F_shows.kp t.b_shows .nil pass0 (pa_cons (pv 0) (pa_cons (pv 1) pa_nil))) pe_bl (nomark _)) (pe_one (pe_cmpR op_eq (pe_ix ix_tup (pe_call (ok_run t) (hr.mono (by decide)) (by rfl) t.m_run t.F_run.kp t.b_run .nil pass0 (pa_cons (pv 0) (pa_cons (pe_op op_add (pv 4) pe_int) pa_nil))) pe_int (fun _ _ => rfl)) pe_str (nomark _)))))))))))), ?_⟩
    obtain ⟨d, w, hw, lb⟩ : ∃ (d : Int) (w : Prop), (rg = true → w ∧ d = 0) ∧ LedBy M f l d w := by
      cases rg with
      | true => exact ⟨0, True, fun _ => ⟨trivial, rfl⟩, ring_led hM fl hs⟩
      | false =>
        obtain ⟨d, h⟩ := drift_led fl hs
        exact ⟨d, False, (fun z => by cases z), h⟩
    have nv := lb.never
    obtain ⟨cf, hcf⟩ := nv f
    have rd := lb.round hcf
    have q := fun (G : Hp) (s : Same H G) => q G (gr_sameq sF s)
    have hm := hm.up sF
    have ha := sF _ _ ha
    clear sF
    refine ⟨_, rfl, a, _, rfl, SqT.of ha, rfl, _, _, rfl, _, _, rfl, _, _, rfl, rfl, ?_⟩
    refine ⟨_, rfl, _, rfl, _, _, rfl, rfl, ?_⟩
    refine ⟨_, rfl, _, rfl, _, rfl, _, _, rfl, rfl, ?_⟩
    dsimp only [tCons, tNil, tC]
    rw [show ((f : Int) + ((l : Int) - (f : Int))) = (l : Int) by omega]
    refine run_sp nv hm hM (by omega) fun G1 v1 u1 l1 xs1 c1 s1 hc1 hv1 hu1 hl1 al1 => ?_
    have hm := hm.up s1
    have ha := s1 _ _ ha
    have q := fun (G : Hp) (s : Same G1 G) => q G (s1.trans s)
    have e1 : c1.r = cf.r ∧ c1.s = cf.s + d ∧ (w → told c1.l = told cf.l) := by
      obtain ⟨c, h1, h2, h3, h4⟩ := rd 1
      rw [show f + 1 * (l - f) = l by omega, hc1] at h1
      cases h1
      exact ⟨h2, by rw [h3]; omega, h4⟩
    -- two rounds more
    have lw : ∀ {i : Nat}, i < 2 → f + (2 + i) * (l - f) ≤ 5000 := fun {i} h => by
      have : (2 + i) * (l - f) ≤ 3 * 61 := Nat.mul_le_mul (by omega) (by omega)
      omega
    refine ⟨2, 4, rfl, ⟨by decide, by decide, by decide, by decide⟩, for_it walk_range (fun i σ G => ∃ (v7 v8 : Option V), σ = [some m, some (.ref a), some (.str (kdR rg).x), some (.int f), some (.int l), some (.int (l - f)), some (.ref v1), v7, v8, none] ∧ Same G1 G)
      ⟨_, _, rfl, Same.refl G1⟩ (fun _ _ _ _ _ => trivial) ?_ ?_⟩
    · rintro i v σ G U hi ⟨v7, v8, rfl, s2⟩ ⟨rfl, rfl⟩
      have hi : i < 2 := hi
      have hm := hm.up s2
      refine ⟨_, rfl, _, rfl, _, rfl, _, rfl, _, _, rfl, rfl, .inl ⟨by omega, by omega⟩, _, _, rfl, rfl, ?_⟩
      dsimp only [tCons, tNil, tC]
      rw [show ((f : Int) + (2 + (i : Int)) * ((l : Int) - (f : Int))) = ((f + (2 + i) * (l - f) : Nat) : Int) by rw [Int.natCast_add, Int.natCast_mul, Int.natCast_add, Int.natCast_sub (Nat.le_of_lt fl)]; rfl]
      refine run_sp nv hm hM (lw hi) fun G2 v2 u2 l2 xs2 c2 s3 hc2 hv2 hu2 hl2 al2 => ?_
      have s4 := s2.trans s3
      have e2 : c2.r = cf.r ∧ c2.s = cf.s + (2 + i : Nat) * d ∧ (w → told c2.l = told cf.l) := by
        obtain ⟨c, h1, h2, h3, h4⟩ := rd (2 + i)
        rw [hc2] at h1
        cases h1
        exact ⟨h2, h3, h4⟩
      refine ⟨_, rfl, v2, _, _, _, rfl, rfl, SqT.of hv2, atI_nat (j := 0) rfl, rfl, _, rfl, ifF (by show (!decide (V.str "on" = V.str "on")) = false; rw [decide_eq_true rfl]; rfl) ?_⟩
      refine ⟨_, rfl, v2, _, _, _, rfl, rfl, SqT.of hv2, atI_nat (j := 2) rfl, u2, _, _, _, rfl, rfl, SqT.of hu2, atI_nat (j := 0) rfl, _, rfl, v1, _, _, _, rfl, rfl, SqT.of (s4 _ _ hv1), atI_nat (j := 2) rfl, u1, _, _, _, rfl, rfl, SqT.of (s4 _ _ hu1), atI_nat (j := 0) rfl, rfl, _, rfl, ifF (by rw [decide_eq_true (by rw [e2.1, e1.1])]; rfl) ?_⟩
      refine ⟨_, rfl, rfl, _, rfl, ?_⟩
      cases rg with
      | true =>
        obtain ⟨ww, d0⟩ := hw rfl
        have e3 : suOf c2 = suOf c1 := by
          unfold suOf
          rw [e2.1, e1.1, e2.2.1, e1.2.1, d0, Int.mul_zero, e2.2.2 ww, e1.2.2 ww]
        exact ifT (by show decide (V.str "ring" = V.str "ring") = true; exact decide_eq_true rfl) ⟨_, rfl, v2, _, _, _, rfl, rfl, SqT.of hv2, atI_nat (j := 2) rfl, _, rfl, v1, _, _, _, rfl, rfl, SqT.of (s4 _ _ hv1), atI_nat (j := 2) rfl, ne_dat (a := suOf c2) (b := suOf c1) ⟨u2, _, _, _, rfl, hu2, rfl, rfl, ⟨l2, xs2, rfl, hl2, al2⟩⟩ ⟨u1, _, _, _, rfl, s4 _ _ hu1, rfl, rfl, ⟨l1, xs1, rfl, s4 _ _ hl1, IsAll.up al1 s4⟩⟩ ⟨_, rfl, ifF (by rw [decide_eq_true e3]; rfl) ⟨_, _, rfl, s4⟩⟩⟩
      | false => exact ifF (by show decide (V.str "drift" = V.str "ring") = false; decide +kernel) (ifF rfl ⟨_, _, rfl, s4⟩)
    rintro σ G2 ⟨v7, v8, rfl, s2⟩
    have hm := hm.up s2
    have ha := s2 _ _ ha
    refine ⟨_, rfl, _, rfl, ?_⟩
    dsimp only [tCons, tNil, tC]
    refine run_sp nv hm hM (by omega) fun G3 v3 u3 l3 xs3 c3 s3 hc3 hv3 hu3 _ _ => ?_
    rw [hc1] at hc3
    cases hc3
    refine ⟨v3, _, _, _, rfl, rfl, SqT.of hv3, atI_nat (j := 2) rfl, u3, _, _, _, rfl, rfl, SqT.of hu3, atI_nat (j := 1) rfl, _, rfl, _, rfl, ?_⟩
    dsimp only [tCons, tNil, tC]
    refine run_sp nv (hm.up s3) hM (by omega) fun G4 v4 u4 l4 xs4 c4 s4 hc4 hv4 hu4 _ _ => ?_
    rw [hcf] at hc4
    cases hc4
    refine ⟨v4, _, _, _, rfl, rfl, SqT.of hv4, atI_nat (j := 2) rfl, u4, _, _, _, rfl, rfl, SqT.of hu4, atI_nat (j := 1) rfl, _, _, rfl, rfl, ?_⟩
    have s5 : Same G2 G4 := s3.trans s4
    refine ⟨_, rfl, rfl, _, rfl, ?_⟩
    have lg : DriftAt M f l ∨ SameAt M f l := by
      cases rg with
      | true => exact .inr hs
      | false => exact .inl hs
    cases rg
    case' false =>
      refine ifT (by show decide (V.str "drift" = V.str "drift") = true; exact decide_eq_true rfl) ?_
      refine ⟨_, rfl, _, rfl, _, rfl, _, _, rfl, rfl, .inl ⟨by omega, by omega⟩, _, _, rfl, rfl, ?_⟩
      dsimp only [tCons, tNil, tC]
      rw [show ((f : Int) + 3 * ((l : Int) - (f : Int))) = ((f + (2 + 1) * (l - f) : Nat) : Int) by rw [Int.natCast_add, Int.natCast_mul, Int.natCast_sub (Nat.le_of_lt fl)]; rfl]
      refine run_sp nv (hm.up s5) hM (lw (by omega)) fun G5 v5 u5 l5 xs5 c5 s6 hc5 hv5 hu5 _ _ => ?_
      obtain ⟨c, h1, h2, h3, h4⟩ := rd (2 + 1)
      rw [hc5] at h1
      cases h1
      have s7 : Same G2 G5 := s5.trans s6
      refine ⟨v5, _, _, _, rfl, rfl, SqT.of hv5, atI_nat (j := 2) rfl, u5, _, _, _, rfl, rfl, SqT.of hu5, atI_nat (j := 1) rfl, _, rfl, v1, _, _, _, rfl, rfl, SqT.of (s7 _ _ (s2 _ _ hv1)), atI_nat (j := 2) rfl, u1, _, _, _, rfl, rfl, SqT.of (s7 _ _ (s2 _ _ hu1)), atI_nat (j := 1) rfl, _, rfl, _, _, rfl, rfl, .inl ⟨by omega, by omega⟩, _, _, rfl, rfl, rfl, _, rfl, ifF ?_ ?_⟩
      · have : c5.s = c1.s + 2 * (c1.s - cf.s) := by rw [h3, e1.2.1]; show cf.s + 3 * d = _; omega
        rw [decide_eq_true (by rw [this])]
        rfl
      refine ⟨_, rfl, _, rfl, ?_⟩
      dsimp only [tCons, tNil, tC]
      refine ⟨G5, m, .ref a, M, R, S, .drift f l, rfl, Same.refl _, hm.up s7, hM, ⟨a, rfl, s7 _ _ ha⟩, ⟨by omega, by omega⟩, fun F8 G8 r g8 hr => ?_⟩
      have er : r = true := hr.mpr ⟨fl, hs, nv.goes l⟩
      subst er
      have s8 := s7.trans (gr_upq g8)
      refine ⟨true, true, rfl, rfl, _, rfl, ifT rfl ⟨_, rfl, _, rfl, _, _, rfl, rfl, ?_⟩⟩
      dsimp only [tCons, tNil, tC]
      rw [show ((l : Int) + 150) = ((l + 150 : Nat) : Int) by rw [Int.natCast_add]; rfl]
      refine run_sp nv (hm.up s8) hM (by omega) fun G9 v9 u9 l9 xs9 c9 s9 _ hv9 _ _ _ => ?_
      refine ⟨v9, _, _, _, rfl, rfl, SqT.of hv9, atI_nat (j := 0) rfl, rfl, ?_⟩
      rw [show decide (V.str tOn.x = V.str "on") = true from decide_eq_true rfl]
      exact q G9 (s2.trans (s8.trans s9))
    case' true =>
      refine ifF (by show decide (V.str "ring" = V.str "drift") = false; decide +kernel) (ifF rfl ?_)
      have s7 := s5
      refine ⟨_, rfl, _, rfl, ?_⟩
      dsimp only [tCons, tNil, tC]
      refine ⟨G4, m, .ref a, M, R, S, .ring f l, rfl, Same.refl _, hm.up s7, hM, ⟨a, rfl, s7 _ _ ha⟩, ⟨by omega, by omega⟩, fun F8 G8 r g8 hr => ?_⟩
      have er : r = true := hr.mpr ⟨fl, hs, nv.goes l⟩
      subst er
      have s8 := s7.trans (gr_upq g8)
      refine ⟨true, true, rfl, rfl, _, rfl, ifT rfl ⟨_, rfl, _, rfl, _, _, rfl, rfl, ?_⟩⟩
      dsimp only [tCons, tNil, tC]
      rw [show ((l : Int) + 150) = ((l + 150 : Nat) : Int) by rw [Int.natCast_add]; rfl]
      refine run_sp nv (hm.up s8) hM (by omega) fun G9 v9 u9 l9 xs9 c9 s9 _ hv9 _ _ _ => ?_
      refine ⟨v9, _, _, _, rfl, rfl, SqT.of hv9, atI_nat (j := 0) rfl, rfl, ?_⟩
      rw [show decide (V.str tOn.x = V.str "on") = true from decide_eq_true rfl]
      exact q G9 (s2.trans (s8.trans s9))
/-! ### what is told for a count is told for each greater one (plain); calls with the whole heap handed over -/
theorem known_le {M : Mach} {n n' k k' : Nat} {c c' : Cfg} (g : Gone M n k c) (g' : Gone M n' k' c') (l : n ≤ n') : known M k c ≤ known M k' c' := by
  have a1 := g.le
  have a2 := g'.le
  rcases Nat.lt_trichotomy k k' with h | h | h
  · unfold known
    split <;> split <;> omega
  · subst h
    have e : c = c' := Option.some.inj (g.stp.symm.trans g'.stp)
    rw [e]
    exact Nat.le_refl _
  · exfalso
    obtain ⟨d, hd⟩ := stepsC_le g.stp (show k' + 1 ≤ k by omega)
    rw [stepsC_next g'.stp] at hd
    rcases g'.fin with e | e
    · rw [e] at hd; cases hd
    · omega
theorem FirstOf.more {P : Nat → Nat → Prop} {K K' : Nat} {f l : Nat} {o : Option (Nat × Nat)} (a : FirstOf P K (some (f, l))) (b : FirstOf P K' o) (h : K ≤ K') : o = some (f, l) := by
  obtain ⟨a1, a2, a3, a4⟩ := a
  exact b.uniq ⟨a1, by omega, a3, a4⟩
theorem RingOf.first {M : Mach} {K : Nat} : ∀ {o : Option (Nat × Nat)}, RingOf M K o → FirstOf (SameAt M) K o
  | none, h => h
  | some (_, _), h => h
theorem ring_sp {G : Hp} {m : V} {M : Mach} {R S n : Nat} {Q : VK} {E : XK} (hm : Is G m M) (hM : MOk M R S) (hn : n ≤ 5000)
    (q : ∀ (G' : Hp) (v : V) (k : Nat) (c : Cfg) (o : Option (Nat × Nat)), Same G G' → Gone M n k c → FirstOf (SameAt M) (known M k c) o → Is G' v (ringD o) → Q v G') : sp_ring [m, .int n] G Q E :=
  ⟨G, m, M, R, S, n, rfl, Same.refl G, hm, hM, hn, fun _ H' v k c o g go r i => q H' v k c o (gr_upq g) go r.first (Is.up i g.fh)⟩
theorem drift_sp {G : Hp} {m : V} {M : Mach} {R S n : Nat} {Q : VK} {E : XK} (hm : Is G m M) (hM : MOk M R S) (hn : n ≤ 5000)
    (q : ∀ (G' : Hp) (v : V) (k : Nat) (c : Cfg) (o : Option (Nat × Nat)), Same G G' → Gone M n k c → FirstOf (DriftAt M) (known M k c) o → Is G' v (driftD o) → Q v G') : sp_drift [m, .int n] G Q E :=
  ⟨G, m, M, R, S, n, rfl, Same.refl G, hm, hM, hn, fun _ H' v k c o g go r i => q H' v k c o (gr_upq g) go r (Is.up i g.fh)⟩
theorem round_sp {G : Hp} {m : V} {a : Addr} {M : Mach} {R S f l : Nat} {rg : Bool} {Q : VK} {E : XK} (hm : Is G m M) (hM : MOk M R S) (ha : G a = some (.tup [.str (kdR rg).x, .int f, .int l])) (fl : f < l) (l61 : l ≤ 61) (hs : if rg = true then SameAt M f l else DriftAt M f l)
    (q : ∀ (G' : Hp), Same G G' → Q (.bl true) G') : sp_L_goes_round [m, .ref a] G Q E :=
  ⟨G, m, a, M, R, S, f, l, rg, rfl, Same.refl G, hm, hM, ha, fl, l61, hs, fun H' g => q H' (gr_upq g)⟩
/-- no two setups are alike where no ring is told -/
theorem unlike {M : Mach} {R S n k : Nat} {c : Cfg} (hM : MOk M R S) (g : Gone M n k c) (h : FirstOf (SameAt M) (known M k c) none) : ∀ f l, f < l → l ≤ k → ¬ SameAt M f l := fun f l fl lk s => by
  have nv := (ring_led hM fl s).never
  have e := (nv.at g).2
  refine h f l fl ?_ s
  unfold known
  rw [if_neg e]
  omega
theorem end_sp {G : Hp} {m : V} {M : Mach} {R S n : Nat} {Q : VK} {E : XK} (hm : Is G m M) (hM : MOk M R S) (hn : n ≤ 5000)
    (q : ∀ (G' : Hp) (v : Addr) (x : Str) (y z : V) (k : Nat) (c : Cfg), Same G G' → Gone M n k c → G' v = some (.tup [.str x, y, z]) → (decide (V.str x = V.str "ends") = true → entOf M c = .emp) → Q (.ref v) G') : sp_run [m, .int n] G Q E :=
  ⟨G, m, M, R, S, n, rfl, Same.refl G, hm, hM, hn, fun F' H' l u v xs k c g go wl al wu wv => by
    refine q H' v _ _ _ k c (gr_upq g) go wv.h fun z => ?_
    by_cases e : entOf M c = .emp
    · exact e
    · exfalso
      unfold dueOf at z
      rw [if_neg e] at z
      exact absurd (V.str.inj (of_decide_eq_true z)) (by show ¬ ("on" : Str) = "ends"; decide +kernel)⟩
def papO (rg : Bool) : Option (Nat × Nat) → PapR
  | none => none
  | some (f, l) => some ⟨kdR rg, f, l⟩
def SD (M : Mach) (rg : Bool) (f l : Nat) : Prop := if rg = true then SameAt M f l else DriftAt M f l
theorem SD.never {M : Mach} {R S f l : Nat} {rg : Bool} (hM : MOk M R S) (fl : f < l) (h : SD M rg f l) : Never M := by
  cases rg with
  | true => exact (ring_led hM fl h).never
  | false =>
    obtain ⟨d, k⟩ := drift_led fl h
    exact k.never
theorem ringD_o (o : Option (Nat × Nat)) : ringD o = papO true o := by
  rcases o with _ | ⟨f, l⟩ <;> rfl
theorem driftD_o (o : Option (Nat × Nat)) : driftD o = papO false o := by
  rcases o with _ | ⟨f, l⟩ <;> rfl
/-- setups told: read alone -/
theorem setups_sp {G : Hp} {m : V} {M : Mach} {R S n : Nat} {Q : VK} {E : XK} (hm : Is G m M) (hM : MOk M R S) (hn : n ≤ 5000)
    (q : ∀ (G' : Hp) (D : Addr) (xs : List V) (cs : List Cfg) (k : Nat) (c : Cfg), Same G G' → Gone M n k c → Hist M k cs → G' D = some (.lst xs) → IsAll G' xs (cs.map suOf) → Q (.ref D) G') : sp_setups [m, .int n] G Q E :=
  ⟨G, m, M, R, S, n, rfl, Same.refl G, hm, hM, hn, fun F' H' D us ps yss cs k c g go hh x => by
    refine q H' D _ cs k c (gr_upq g) go hh x.ow.h ⟨by rw [List.length_map, List.length_map, x.l1], fun i v d hv hd => ?_⟩
    rw [List.getElem?_map] at hv hd
    obtain ⟨u, hu, rfl⟩ := Option.map_eq_some_iff.mp hv
    obtain ⟨c, hc, rfl⟩ := Option.map_eq_some_iff.mp hd
    have ic := (List.getElem?_eq_some_iff.mp hc).1
    have hp : ps[i]? = some _ := List.getElem?_eq_getElem (by rw [x.l2]; exact ic)
    have hy : yss[i]? = some _ := List.getElem?_eq_getElem (by rw [x.l3]; exact ic)
    exact ⟨u, _, _, _, rfl, g.fh _ _ (x.tup i u _ c hu hp hc), rfl, rfl, _, _, rfl, (x.lst i _ _ hp hy).h, IsAll.up (x.dat i _ c hy hc) g.fh⟩⟩
abbrev Mk := T3 Int Int (Tup PI)
def mkOf25 (c : Cfg) : Mk := ⟨c.r, c.s, ⟨told c.l⟩⟩
theorem nt_pis : ∀ l : List PI, noTexts (keyDs (l.map Dat.py)) = true
  | [] => by rw [List.map_nil, keyDs, noTexts]
  | x :: l => by
    rw [List.map_cons, keyDs, noTexts, nt_pis l]
    show (noText (keyD (.tuple [.int x.a, .int x.b])) && true) = true
    simp [keyD, keyDs, noText, noTexts]
theorem nt_mk (d : Mk) : noText (keyD (Dat.py d)) = true := by
  show noText (keyD (.tuple [.int d.a, .int d.b, .tuple (d.c.l.map Dat.py)])) = true
  rw [keyD, keyDs, keyDs, keyDs, keyDs, keyD, keyD, keyD, noText, noTexts, noTexts, noTexts, noTexts, noText, noText, noText, nt_pis]
  rfl
theorem kdv_all {K : PySem.W.Frag} {H : Hp} : ∀ {xs : List V} {ds : List Mk}, IsAll H xs ds → Paired (KdV K H) xs (ds.map Dat.py)
  | [], [], _ => .nil
  | [], d :: ds, h => by have := h.1; simp at this
  | x :: xs, [], h => by have := h.1; simp at this
  | x :: xs, d :: ds, h => by
    have h0 : Is H x d := h.2 0 x d rfl rfl
    obtain ⟨p, _, _, _, rfl, _⟩ := id h0
    exact .cons ⟨⟨p, rfl⟩, Dat.dp h0, Kd.k d, Nat.le_trans (Dat.depth d) (by decide), nt_mk d⟩ (kdv_all ⟨by have := h.1; simpa using this, fun i a b p q => h.2 (i + 1) a b (by simpa using p) (by simpa using q)⟩)
theorem mk_same {a b : Cfg} (h : mkOf25 a = mkOf25 b) : sameC a b = true := by
  unfold mkOf25 at h
  injection h with h1 h2 h3
  injection h3 with h3
  unfold sameC
  rw [decide_eq_true h1, decide_eq_true h2, decide_eq_true h3]
  rfl
theorem su_same {a b : Cfg} (h : sameC a b = true) : suOf a = suOf b := by
  unfold sameC at h
  rw [Bool.and_eq_true, Bool.and_eq_true, decide_eq_true_iff, decide_eq_true_iff, decide_eq_true_iff] at h
  unfold suOf
  rw [h.1.1, h.1.2, h.2]
theorem marks_nd {M : Mach} {k : Nat} {cs : List Cfg} (hh : Hist M k cs) (h : ∀ f l, f < l → l ≤ k → ¬ SameAt M f l) : (((cs.map mkOf25).map Dat.py).map keyD).Nodup := by
  rw [List.map_map, List.map_map]
  refine List.pairwise_map.mpr (List.pairwise_iff_getElem.mpr fun i j hi hj lt e => ?_)
  have e := (keyD_inj (mkOf25 cs[i]) (mkOf25 cs[j])).mp e
  have hl := hh.1
  exact h i j lt (by omega) ⟨_, _, hh.2 i _ (List.getElem?_eq_getElem hi), hh.2 j _ (List.getElem?_eq_getElem hj), mk_same e⟩
/-! ### the law -/
def sp_law (K : PySem.W.Frag) : Sp := fun vs H Q _ => ∃ (a : Addr) (ns : List Int), vs = [.ref a] ∧ SqL K H a (ns.map V.int) ∧ ns.length ≤ 63 ∧ ∀ H', Q (.bl true) H'
theorem ok_law (t : Tx K mg) : FnOk P w K mg base CX0 8 t.a_law t.fd_law ["_law_script"] (sp_law K) := by
  refine t.F_law.ok sc_law (fun vs H Q E h => ?_) (fun cdv A outer s H vs Q E hr h => ?_)
  · obtain ⟨a, ns, rfl, _⟩ := h
    rfl
  · obtain ⟨a, ns, rfl, hS, hn, q⟩ := h
    refine ⟨_, (pss_cons (ps_set (i := 1) sc_law.nd rfl (by first | exact Or.inl rfl | exact Or.inr rfl) (pe_call (ok_L_purse t) (hr.mono (by decide)) (by rfl) t.m_L_purse t.F_L_purse.kp t.b_L_purse .nil pass0 (pa_cons (pv 0) pa_nil)))
      (pss_cons (ps_set (i := 2) sc_law.nd rfl (by first | exact Or.inl rfl | exact Or.inr rfl) (pe_call (ok_L_any t) (hr.mono (by decide)) (by rfl) t.m_L_any t.F_L_any.kp t.b_L_any .nil pass0 (pa_cons (pv 1) pa_nil)))
      (pss_cons (ps_set (i := 3) sc_law.nd rfl (by first | exact Or.inl rfl | exact Or.inr rfl) (pe_call (ok_L_draw t) (hr.mono (by decide)) (by rfl) t.m_L_draw t.F_L_draw.kp t.b_L_draw .nil pass0 (pa_cons (pv 1) (pa_cons pe_int pa_nil))))
      (pss_cons (ps_set (i := 4) sc_law.nd rfl (by first | exact Or.inl rfl | exact Or.inr rfl) (pe_cmpR op_eq (pe_ix ix_tup (pe_call (ok_run t) (hr.mono (by decide)) (by rfl) t.m_run t.F_run.kp t.b_run .nil pass0 (pa_cons (pv 2) (pa_cons pe_int pa_nil))) pe_int (fun _ _ => rfl)) pe_str (nomark _)))
      (pss_cons (ps_for PassesOwn.never rfl (pi_list (pe_lst (pa_cons (pe_tup (pa_cons (pe_call (ok_ring t) (hr.mono (by decide)) (by rfl) t.m_ring t.F_ring.kp t.b_ring .nil pass0 (pa_cons (pv 2) (pa_cons (pv 3) pa_nil))) (pa_cons (pe_call (ok_ring t) (hr.mono (by decide)) (by rfl) t.m_ring t.F_ring.kp t.b_ring .nil pass0 (pa_cons (pv 2) (pa_cons pe_int pa_nil))) pa_nil))) (pa_cons (pe_tup (pa_cons (pe_call (ok_drift t) (hr.mono (by decide)) (by rfl) t.m_drift t.F_drift.kp t.b_drift .nil pass0 (pa_cons (pv 2) (pa_cons (pv 3) pa_nil))) (pa_cons (pe_call (ok_drift t) (hr.mono (by decide)) (by rfl) t.m_drift t.F_drift.kp t.b_drift .nil pass0 (pa_cons (pv 2) (pa_cons pe_int pa_nil))) pa_nil))) pa_nil)))) (pg_tup rfl (pgs_cons (pg_name (i := 5) sc_law.nd rfl (by first | exact Or.inl rfl | exact Or.inr rfl)) (pgs_cons (pg_name (i := 6) sc_law.nd rfl (by first | exact Or.inl rfl | exact Or.inr rfl)) pgs_nil))) (pss_cons (ps_if (PW.pt (pw_and (pt_cmpR op_notN (pv 5) pe_non (nomark _)) (pw_and1 (PW.pt (pw_or (pt_cmpR (op_neD hr.units) (pv 5) (pv 6) (nomark _)) (pw_or1 (pt_not (pt_val (pe_call (ok_L_goes_round t) (hr.mono (by decide)) (by rfl) t.m_L_goes_round t.F_L_goes_round.kp t.b_L_goes_round .nil pass0 (pa_cons (pv 2) (pa_cons (pv 5) pa_nil))))))))))) (pss_one (ps_ret pe_bl)) pss_nil)
      (pss_one (ps_if (PW.pt (pw_and (pt_val (pv 4)) (pw_and1 (pt_cmpR op_notN (pv 6) pe_non (nomark _))))) (pss_one (ps_ret pe_bl)) pss_nil))))
      (pss_cons (ps_set (i := 7) sc_law.nd rfl (by first | exact Or.inl rfl | exact Or.inr rfl) (pe_call (ok_setups t) (hr.mono (by decide)) (by rfl) t.m_setups t.F_setups.kp t.b_setups .nil pass0 (pa_cons (pv 2) (pa_cons (pv 3) pa_nil))))
      (pss_cons (ps_set (i := 5) sc_law.nd rfl (by first | exact Or.inl rfl | exact Or.inr rfl) (pe_call (ok_ring t) (hr.mono (by decide)) (by rfl) t.m_ring t.F_ring.kp t.b_ring .nil pass0 (pa_cons (pv 2) (pa_cons (pv 3) pa_nil))))
      (pss_cons (ps_if (pt_cmpR op_isN (pv 5) pe_non (nomark _)) (pss_cons (ps_setLc (i := 8) (own := [("_law_row", 9), ("_law_place", 10), ("_law_strip", 11)]) (tt := tYes) rfl sc_law.nd rfl rfl (sw_true rfl rfl rfl (by decide +kernel)) (pi_list (pv 7)) (blkOk_by (N := N_law) (sc := defScope s_law) (by decide +kernel)) (fun _ _ _ _ _ => (pg_tupK (K := K) (n := 3) rfl rfl (pgs_cons (pg_name (i := 9) sc_law.nd rfl (by first | exact Or.inl rfl | exact Or.inr rfl)) (pgs_cons (pg_name (i := 10) sc_law.nd rfl (by first | exact Or.inl rfl | exact Or.inr rfl)) (pgs_cons (pg_name (i := 11) sc_law.nd rfl (by first | exact Or.inl rfl | exact Or.inr rfl)) pgs_nil))))) (fun _ _ _ _ _ => pts_nil) (fun _ _ _ _ _ => (pe_tup (pa_cons (pv 9) (pa_cons (pv 10) (pa_cons (pe_callTy (T := "tuple") (crK (K := K) (r := rTupQ) rfl call_tupQ) (by rfl) t.n_tuple (by decide +kernel) (pa_cons (pv 11) pa_nil)) pa_nil))))))
      (pss_one (ps_ret (pe_cmpR op_eq (pe_lenSetN rfl hr.units (by rfl) t.n_len (by rfl) t.n_set (pv 8)) (pe_callB (id := "len") call_lenQ (by rfl) t.n_len (by decide +kernel) (pa_cons (pv 8) pa_nil)) (nomark _))))) pss_nil)
      (pss_one (ps_ret (pe_cmpR (op_eqD hr.units) (pe_ix ix_list (pv 7) (pe_ix ix_tup (pv 5) pe_int (fun _ _ => rfl)) (fun _ _ => rfl)) (pe_ix ix_list (pv 7) (pe_ix ix_tup (pv 5) pe_int (fun _ _ => rfl)) (fun _ _ => rfl)) (nomark _)))))))))))), ?_⟩
    refine ⟨_, rfl, a, ns, rfl, hS, hn, fun a0 b0 p H1 ha0 hb0 s1 np hp1 => ?_⟩
    refine ⟨_, rfl, H, p, a0, b0, rfl, s1, np, hp1, ha0, hb0, fun F2 H2 m rs ess M R S a1 b1 g2 hp2 ha1 hb1 hM x => ?_⟩
    obtain ⟨F3, g3, s23, hm, _, on⟩ := x.frz g2
    refine ⟨_, rfl, p, a1, b1, 61, rfl, hp2, ha1, hb1, by decide, by decide, fun most a2 b2 w0 w1 ha2 hb2 => ?_⟩
    obtain ⟨g4, _⟩ := g3.drw (a := a2) (b := b2) np hp1
    generalize upd H2 p (PurseO a2 b2) = G0 at g4 ⊢
    have hm := hm.up g4.fh
    clear g3 g2 x on s23 hp2 g4 s1 np hp1 hS
    obtain ⟨n, rfl⟩ := Int.eq_ofNat_of_zero_le w0
    refine ⟨_, rfl, ?_⟩
    dsimp only [tCons, tNil, tC]
    refine end_sp (n := 60) hm hM (by omega) fun G1 v1 x1 y1 z1 k60 c60 s1 go60 hv1 hend => ?_
    have hm := hm.up s1
    refine ⟨v1, _, _, _, rfl, rfl, SqT.of hv1, atI_nat (j := 0) rfl, rfl, ?_⟩
    generalize decide (V.str x1 = V.str "ends") = ended at hend ⊢
    clear s1 hv1
    -- the papers
    refine ⟨_, rfl, _, rfl, ?_⟩
    dsimp only [tCons, tNil, tC]
    refine ring_sp (n := n) hm hM (by omega) fun G2 r1 k2 c2 o1 s2 go2 fo1 i1 => ?_
    refine ⟨_, rfl, ?_⟩
    dsimp only [tCons, tNil, tC]
    refine ring_sp (n := 60) (hm.up s2) hM (by omega) fun G3 r2 k3 c3 o2 s3 go3 fo2 i2 => ?_
    refine ⟨two_le, fun t1 n1 => ?_⟩
    have s4 : Same G3 (upd G3 t1 (.tup [r1, r2])) := sm_up n1
    have ht1 : (upd G3 t1 (.tup [r1, r2])) t1 = some (.tup [r1, r2]) := upd_same
    generalize upd G3 t1 (.tup [r1, r2]) = G4 at s4 ht1 ⊢
    refine ⟨_, rfl, _, rfl, ?_⟩
    dsimp only [tCons, tNil, tC]
    refine drift_sp (n := n) (hm.up (s2.trans (s3.trans s4))) hM (by omega) fun G5 r3 k5 c5 o3 s5 go5 fo3 i3 => ?_
    refine ⟨_, rfl, ?_⟩
    dsimp only [tCons, tNil, tC]
    refine drift_sp (n := 60) (hm.up (s2.trans (s3.trans (s4.trans s5)))) hM (by omega) fun G6 r4 k6 c6 o4 s6 go6 fo4 i4 => ?_
    refine ⟨two_le, fun t2 n2 => ?_⟩
    have s7 : Same G6 (upd G6 t2 (.tup [r3, r4])) := sm_up n2
    have ht2 : (upd G6 t2 (.tup [r3, r4])) t2 = some (.tup [r3, r4]) := upd_same
    generalize upd G6 t2 (.tup [r3, r4]) = G7 at s7 ht2 ⊢
    refine ⟨two_le, fun L nL => ?_⟩
    have s8 : Same G7 (upd G7 L (.lst [.ref t1, .ref t2])) := sm_up nL
    have hL : (upd G7 L (.lst [.ref t1, .ref t2])) L = some (.lst [.ref t1, .ref t2]) := upd_same
    generalize upd G7 L (.lst [.ref t1, .ref t2]) = G8 at s8 hL ⊢
    have s48 := s5.trans (s6.trans (s7.trans s8))
    have s38 := s4.trans s48
    have hm := hm.up (s2.trans (s3.trans s38))
    have ht1 := s48 _ _ ht1
    have ht2 := s8 _ _ ht2
    have i1 := Is.up i1 (s3.trans s38)
    have i2 := Is.up i2 s38
    have i3 := Is.up i3 (s6.trans (s7.trans s8))
    have i4 := Is.up i4 (s7.trans s8)
    clear s2 s3 s4 s5 s6 s7 s8 s48 s38 n1 n2 nL
    rw [ringD_o] at i1 i2
    rw [driftD_o] at i3 i4
    refine ⟨L, rfl, ⟨_, SqL.of hL⟩, for_it (D := ⟨_, _, fun _ _ => True, fun _ _ => True⟩) walk_list (fun i σ G => ∃ (v5 v6 : Option V), σ = [some (.ref a), some (.ref p), some (.ref m), some (.int n), some (.bl ended), v5, v6, none, none, none, none, none] ∧ Same G8 G)
      ⟨_, _, rfl, Same.refl _⟩ (fun _ _ _ _ ⟨_, _, _, s⟩ => SqL.of (s _ _ hL)) ?_ ?_⟩
    · rintro i v σ G U hi ⟨v5, v6, rfl, s1⟩ ⟨rfl, hv⟩
      obtain ⟨t, x, y, rg, o, o', K1, K2, rfl, ht, ix, iy, fo, fo', kl, k61⟩ : ∃ (t : Addr) (x y : V) (rg : Bool) (o o' : Option (Nat × Nat)) (K1 K2 : Nat), v = .ref t ∧ G8 t = some (.tup [x, y]) ∧ Is G8 x (papO rg o) ∧ Is G8 y (papO rg o') ∧ FirstOf (SD M rg) K1 o ∧ FirstOf (SD M rg) K2 o' ∧ K1 ≤ K2 ∧ K2 ≤ 61 := by
        have hi : i < 2 := hi
        have kn : ∀ {k : Nat} {c : Cfg}, Gone M 60 k c → known M k c ≤ 61 := fun {k c} g => by
          have := g.le
          unfold known
          split <;> omega
        rcases (by omega : i = 0 ∨ i = 1) with rfl | rfl <;> cases hv
        · exact ⟨t1, r1, r2, true, o1, o2, _, _, rfl, ht1, i1, i2, fo1, fo2, known_le go2 go3 (by omega), kn go3⟩
        · exact ⟨t2, r3, r4, false, o3, o4, _, _, rfl, ht2, i3, i4, fo3, fo4, known_le go5 go6 (by omega), kn go6⟩
      have hend2 : ended = true → o' = none := fun e => by
        rcases o' with _ | ⟨f, l⟩
        · rfl
        · obtain ⟨fl, _, h, _⟩ := fo'
          exact absurd (hend e) ((SD.never hM fl h).gone go60)
      refine ⟨t, _, rfl, SqT.of (s1 _ _ ht), rfl, _, _, rfl, _, _, rfl, rfl, ?_⟩
      have tail : ∀ (G' : Hp), Same G8 G' → ended = true → y = .non := fun G' _ e => by
        rw [hend2 e] at iy
        exact iy
      refine ⟨_, rfl, rfl, _, rfl, ?_⟩
      rcases o with _ | ⟨f, l⟩
      · have ix : x = .non := ix
        subst ix
        refine ifF rfl (ifF rfl ⟨_, rfl, ended, rfl, ?_⟩)
        cases ended with
        | false => exact ifF rfl (ifF rfl ⟨_, _, rfl, s1⟩)
        | true =>
          have ey := tail _ s1 rfl
          subst ey
          exact ifT rfl ⟨_, rfl, rfl, _, rfl, ifF rfl ⟨_, _, rfl, s1⟩⟩
      · have eo := fo.more fo' kl
        subst eo
        obtain ⟨fl, lk, hs, _⟩ := id fo
        have ended0 : ended = false := by
          cases ended with
          | false => rfl
          | true => cases hend2 rfl
        subst ended0
        obtain ⟨b, x1, x2, x3, rfl, hb, e1, e2, e3⟩ := id ix
        have e1 : x1 = .str (kdR rg).x := e1
        have e2 : x2 = .int f := e2
        have e3 : x3 = .int l := e3
        subst e1 e2 e3
        refine ifT rfl ⟨_, rfl, _, rfl, ne_dat (Is.up ix s1) (Is.up iy s1) ⟨_, rfl, ifF (by rw [decide_eq_true rfl]; rfl) ?_⟩⟩
        refine ⟨_, rfl, _, rfl, ?_⟩
        dsimp only [tCons, tNil, tC]
        refine round_sp (hm.up s1) hM (s1 _ _ hb) fl (by omega) hs fun G9 s9 => ⟨_, rfl, ifF rfl ⟨_, rfl, false, rfl, ifF rfl (ifF rfl ⟨_, _, rfl, s1.trans s9⟩)⟩⟩
    rintro σ G2 ⟨v5, v6, rfl, s1⟩
    have hm := hm.up s1
    clear s1
    refine ⟨_, rfl, _, rfl, ?_⟩
    dsimp only [tCons, tNil, tC]
    refine setups_sp (n := n) hm hM (by omega) fun G3 D us cs k c s3 go hh hD hus => ?_
    have hm := hm.up s3
    clear s3
    refine ⟨_, rfl, _, rfl, ?_⟩
    dsimp only [tCons, tNil, tC]
    refine ring_sp (n := n) hm hM (by omega) fun G4 r k' c' o s4 go' fo ir => ?_
    obtain ⟨rfl, rfl⟩ : k = k' ∧ c = c' := go.uniq go'
    have hD := s4 _ _ hD
    have hus := IsAll.up hus s4
    clear s4
    have lcs : cs.length = k + 1 := hh.1
    have lus : us.length = k + 1 := by have := hus.1; rw [List.length_map] at this; omega
    have kn := go.le
    refine ⟨_, rfl, rfl, _, rfl, ?_⟩
    rcases o with _ | ⟨f, l⟩
    · have ir : r = .non := ir
      subst ir
      refine ifT rfl ?_
      have un := unlike hM go fo
      refine ⟨_, rfl, D, rfl, ⟨_, SqL.of hD⟩, fun L nL => lc_list (K := K) (a := D) (xs := us) (fun i G => ∃ (F : Hp) (xs : List V), Gr mu0 G4 G4 F G ∧ Ow G4 F G L (.lst xs) ∧ IsAll F xs ((cs.take i).map mkOf25))
        ⟨G4, [], (Gr.refl (Same.refl G4)).own nL, Ow.mk1 (Gr.refl (mu := mu0) (Same.refl G4)) nL, All2.nil⟩ (fun i G _ ⟨F, xs, g, _⟩ => SqL.of (g.fr _ _ hD fun z => z)) ?_ ?_⟩
      · rintro i y G hi ⟨F, xs, g, w, al⟩
        obtain ⟨d, hd, iy⟩ := hus.get' hi
        rw [List.getElem?_map] at hd
        obtain ⟨ci, hc, rfl⟩ := Option.map_eq_some_iff.mp hd
        obtain ⟨tu, x1, x2, x3, rfl, htu, e1, e2, z, zs, rfl, hz, hzs⟩ := iy
        have e1 : x1 = .int ci.r := e1
        have e2 : x2 = .int ci.s := e2
        subst e1 e2
        have ii : i < cs.length := (List.getElem?_eq_some_iff.mp hc).1
        refine ⟨tu, _, rfl, SqT.of (g.fh _ _ (g.ff _ _ htu)), rfl, _, _, rfl, _, _, rfl, _, _, rfl, rfl, rfl, yes ⟨_, rfl, _, rfl, _, rfl, z, zs, rfl, .inl ⟨SqL.of (g.fh _ _ (g.ff _ _ hz)), fun p np => ⟨three_le, fun q nq => ?_⟩⟩⟩⟩
        have g1 := g.new (o := .tup zs) np
        have w1 := w.new (u := .tup zs) np
        have hp1 : (upd F p (.tup zs)) p = some (.tup zs) := upd_same
        have g2 := g1.new (o := .tup [.int ci.r, .int ci.s, .ref p]) nq
        have w2 := w1.new (u := .tup [.int ci.r, .int ci.s, .ref p]) nq
        have hq2 : (upd (upd F p (.tup zs)) q (.tup [.int ci.r, .int ci.s, .ref p])) q = some (.tup [.int ci.r, .int ci.s, .ref p]) := upd_same
        have hp2 : (upd (upd F p (.tup zs)) q (.tup [.int ci.r, .int ci.s, .ref p])) p = some (.tup zs) := (upd_ne (ne_of_none (g1.fh _ _ hp1) nq)).trans hp1
        have sF : Same F (upd (upd F p (.tup zs)) q (.tup [.int ci.r, .int ci.s, .ref p])) := (sm_up (g.free np)).trans (sm_up (g1.free nq))
        generalize upd (upd F p (.tup zs)) q (.tup [.int ci.r, .int ci.s, .ref p]) = F2 at g2 w2 hq2 hp2 sF
        generalize upd (upd G p (.tup zs)) q (.tup [.int ci.r, .int ci.s, .ref p]) = G2 at g2 w2 ⊢
        refine ⟨xs, w2.h, lt_size (by rw [al.1, List.length_map, List.length_take]; omega), F2, xs ++ [.ref q], g2.set w2.f (.inl w2.n), w2.set, ?_⟩
        rw [List.take_add_one, hc, List.map_append]
        refine (IsAll.up al sF).app (All2.one (show Is F2 (.ref q) (mkOf25 ci) from ⟨q, _, _, _, rfl, hq2, rfl, rfl, p, zs, rfl, hp2, IsAll.up hzs g2.ff⟩))
      · rintro GA ⟨F, xs, g, w, al⟩
        rw [lus, ← lcs, List.take_length] at al
        have lx : xs.length = k + 1 := by have := al.1; rw [List.length_map] at this; omega
        refine ⟨_, rfl, L, xs, (cs.map mkOf25).map Dat.py, rfl, SqL.of w.h, kdv_all (IsAll.up al g.fh), by omega, marks_nd hh un, _, rfl, L, xs, rfl, .inl (SqL.of w.h), rfl, ?_⟩
        rw [decide_eq_true rfl]
        exact q _
    · obtain ⟨fl, lk, hs, _⟩ := id fo
      obtain ⟨b, x1, x2, x3, rfl, hb, e1, e2, e3⟩ := ir
      have e2 : x2 = .int f := e2
      have e3 : x3 = .int l := e3
      subst e2 e3
      have kle : known M k c ≤ k + 1 := by unfold known; split <;> omega
      have cf : cs[f]? = some _ := List.getElem?_eq_getElem (by omega)
      have cl : cs[l]? = some _ := List.getElem?_eq_getElem (by omega)
      obtain ⟨vf, hvf, if_⟩ := hus.get (i := f) (by rw [List.getElem?_map, cf]; rfl)
      obtain ⟨vl, hvl, il⟩ := hus.get (i := l) (by rw [List.getElem?_map, cl]; rfl)
      have e : suOf cs[f] = suOf cs[l] := by
        obtain ⟨a', b', h1, h2, h3⟩ := hs
        rw [hh.2 f _ cf] at h1
        rw [hh.2 l _ cl] at h2
        cases h1; cases h2
        exact su_same h3
      refine ifF rfl ?_
      refine ⟨_, rfl, _, rfl, b, _, _, _, rfl, rfl, SqT.of hb, atI_nat (j := 1) rfl, D, _, _, _, rfl, rfl, SqL.of hD, at_of (j := f) rfl hvf, _, rfl, _, rfl, b, _, _, _, rfl, rfl, SqT.of hb, atI_nat (j := 2) rfl, D, _, _, _, rfl, rfl, SqL.of hD, at_of (j := l) rfl hvl, eq_dat if_ il ?_⟩
      rw [decide_eq_true e]
      exact q _

end
def all_tx {K : PySem.W.Frag} {h : Heap} {mg : Str → Option Value} {a_L_mixed a_L_purse a_L_draw a_L_machine a_L_late a_L_led a_L_any a_is_entry a_is_machine a_must_machine a_Goer_init a_told_strip a_Goer_setup a_Goer_entry a_Goer_step a_setups a_plain a_Log_init a_Log_last a_Log_same a_ring a_gone a_run a_Log_drifts a_drift a_is_ring a_is_drift a_ends_behind a_shows a_L_goes_round a_law C_NoMachine C_Goer C_Log : Addr} {od_L_mixed an_L_mixed od_L_purse an_L_purse od_L_draw an_L_draw od_L_machine an_L_machine od_L_late an_L_late od_L_led an_L_led od_L_any an_L_any od_is_entry an_is_entry od_is_machine an_is_machine od_must_machine an_must_machine od_Goer_init an_Goer_init od_told_strip an_told_strip od_Goer_setup an_Goer_setup od_Goer_entry an_Goer_entry od_Goer_step an_Goer_step od_setups an_setups od_plain an_plain od_Log_init an_Log_init od_Log_last an_Log_last od_Log_same an_Log_same od_ring an_ring od_gone an_gone od_run an_run od_Log_drifts an_Log_drifts od_drift an_drift od_is_ring an_is_ring od_is_drift an_is_drift od_ends_behind an_ends_behind od_shows an_shows od_L_goes_round an_L_goes_round od_law an_law : Option Addr} {sl_L_mixed sl_L_purse sl_L_draw sl_L_machine sl_L_late sl_L_led sl_L_any sl_is_entry sl_is_machine sl_must_machine sl_Goer_init sl_told_strip sl_Goer_setup sl_Goer_entry sl_Goer_step sl_setups sl_plain sl_Log_init sl_Log_last sl_Log_same sl_ring sl_gone sl_run sl_Log_drifts sl_drift sl_is_ring sl_is_drift sl_ends_behind sl_shows sl_L_goes_round sl_law : Array (Option Value)} {oc_L_mixed kV_L_mixed dc_L_mixed pm_L_mixed cd_L_mixed ct_L_mixed oc_L_purse kV_L_purse dc_L_purse pm_L_purse cd_L_purse ct_L_purse oc_L_draw kV_L_draw dc_L_draw pm_L_draw cd_L_draw ct_L_draw oc_L_machine kV_L_machine dc_L_machine pm_L_machine cd_L_machine ct_L_machine oc_L_late kV_L_late dc_L_late pm_L_late cd_L_late ct_L_late oc_L_led kV_L_led dc_L_led pm_L_led cd_L_led ct_L_led oc_L_any kV_L_any dc_L_any pm_L_any cd_L_any ct_L_any oc_is_entry kV_is_entry dc_is_entry pm_is_entry cd_is_entry ct_is_entry oc_is_machine kV_is_machine dc_is_machine pm_is_machine cd_is_machine ct_is_machine oc_must_machine kV_must_machine dc_must_machine pm_must_machine cd_must_machine ct_must_machine oc_Goer_init kV_Goer_init dc_Goer_init pm_Goer_init cd_Goer_init ct_Goer_init oc_told_strip kV_told_strip dc_told_strip pm_told_strip cd_told_strip ct_told_strip oc_Goer_setup kV_Goer_setup dc_Goer_setup pm_Goer_setup cd_Goer_setup ct_Goer_setup oc_Goer_entry kV_Goer_entry dc_Goer_entry pm_Goer_entry cd_Goer_entry ct_Goer_entry oc_Goer_step kV_Goer_step dc_Goer_step pm_Goer_step cd_Goer_step ct_Goer_step oc_setups kV_setups dc_setups pm_setups cd_setups ct_setups oc_plain kV_plain dc_plain pm_plain cd_plain ct_plain oc_Log_init kV_Log_init dc_Log_init pm_Log_init cd_Log_init ct_Log_init oc_Log_last kV_Log_last dc_Log_last pm_Log_last cd_Log_last ct_Log_last oc_Log_same kV_Log_same dc_Log_same pm_Log_same cd_Log_same ct_Log_same oc_ring kV_ring dc_ring pm_ring cd_ring ct_ring oc_gone kV_gone dc_gone pm_gone cd_gone ct_gone oc_run kV_run dc_run pm_run cd_run ct_run oc_Log_drifts kV_Log_drifts dc_Log_drifts pm_Log_drifts cd_Log_drifts ct_Log_drifts oc_drift kV_drift dc_drift pm_drift cd_drift ct_drift oc_is_ring kV_is_ring dc_is_ring pm_is_ring cd_is_ring ct_is_ring oc_is_drift kV_is_drift dc_is_drift pm_is_drift cd_is_drift ct_is_drift oc_ends_behind kV_ends_behind dc_ends_behind pm_ends_behind cd_ends_behind ct_ends_behind oc_shows kV_shows dc_shows pm_shows cd_shows ct_shows oc_L_goes_round kV_L_goes_round dc_L_goes_round pm_L_goes_round cd_L_goes_round ct_L_goes_round oc_law kV_law dc_law pm_law cd_law ct_law : Value} {tk_MOST_ROWS tk_MOST_SIGNS : Tok} (X : K.In h) (G : h.Ns mainGlobals mg)
    (n_NoMachine : PySem.W.nsIn K mainGlobals "NoMachine" = some (some (.ref C_NoMachine)))
    (n_Goer : PySem.W.nsIn K mainGlobals "Goer" = some (some (.ref C_Goer)))
    (n_Log : PySem.W.nsIn K mainGlobals "Log" = some (some (.ref C_Log)))
    (n_L_mixed : PySem.W.nsIn K mainGlobals "_law_mixed" = some (some (.ref a_L_mixed)))
    (l_L_mixed : K.lookup a_L_mixed = some ⟨oc_L_mixed, od_L_mixed, .func (PySem.W.fnOf "_law_mixed" "_law_mixed" (defArgs s_L_mixed) (defBody s_L_mixed) (defScope s_L_mixed) .none kV_L_mixed dc_L_mixed pm_L_mixed an_L_mixed cd_L_mixed ct_L_mixed), sl_L_mixed⟩)
    (c_L_mixed : PySem.W.codeIn K cd_L_mixed "_law_mixed" = true)
    (k_L_mixed : PySem.W.keepIn K (.ref a_L_mixed) = true)
    (n_L_purse : PySem.W.nsIn K mainGlobals "_law_purse" = some (some (.ref a_L_purse)))
    (l_L_purse : K.lookup a_L_purse = some ⟨oc_L_purse, od_L_purse, .func (PySem.W.fnOf "_law_purse" "_law_purse" (defArgs s_L_purse) (defBody s_L_purse) (defScope s_L_purse) .none kV_L_purse dc_L_purse pm_L_purse an_L_purse cd_L_purse ct_L_purse), sl_L_purse⟩)
    (c_L_purse : PySem.W.codeIn K cd_L_purse "_law_purse" = true)
    (k_L_purse : PySem.W.keepIn K (.ref a_L_purse) = true)
    (n_L_draw : PySem.W.nsIn K mainGlobals "_law_draw" = some (some (.ref a_L_draw)))
    (l_L_draw : K.lookup a_L_draw = some ⟨oc_L_draw, od_L_draw, .func (PySem.W.fnOf "_law_draw" "_law_draw" (defArgs s_L_draw) (defBody s_L_draw) (defScope s_L_draw) .none kV_L_draw dc_L_draw pm_L_draw an_L_draw cd_L_draw ct_L_draw), sl_L_draw⟩)
    (c_L_draw : PySem.W.codeIn K cd_L_draw "_law_draw" = true)
    (k_L_draw : PySem.W.keepIn K (.ref a_L_draw) = true)
    (n_L_machine : PySem.W.nsIn K mainGlobals "_law_machine" = some (some (.ref a_L_machine)))
    (l_L_machine : K.lookup a_L_machine = some ⟨oc_L_machine, od_L_machine, .func (PySem.W.fnOf "_law_machine" "_law_machine" (defArgs s_L_machine) (defBody s_L_machine) (defScope s_L_machine) .none kV_L_machine dc_L_machine pm_L_machine an_L_machine cd_L_machine ct_L_machine), sl_L_machine⟩)
    (c_L_machine : PySem.W.codeIn K cd_L_machine "_law_machine" = true)
    (k_L_machine : PySem.W.keepIn K (.ref a_L_machine) = true)
    (n_L_late : PySem.W.nsIn K mainGlobals "_law_late" = some (some (.ref a_L_late)))
    (l_L_late : K.lookup a_L_late = some ⟨oc_L_late, od_L_late, .func (PySem.W.fnOf "_law_late" "_law_late" (defArgs s_L_late) (defBody s_L_late) (defScope s_L_late) .none kV_L_late dc_L_late pm_L_late an_L_late cd_L_late ct_L_late), sl_L_late⟩)
    (c_L_late : PySem.W.codeIn K cd_L_late "_law_late" = true)
    (k_L_late : PySem.W.keepIn K (.ref a_L_late) = true)
    (n_L_led : PySem.W.nsIn K mainGlobals "_law_led" = some (some (.ref a_L_led)))
    (l_L_led : K.lookup a_L_led = some ⟨oc_L_led, od_L_led, .func (PySem.W.fnOf "_law_led" "_law_led" (defArgs s_L_led) (defBody s_L_led) (defScope s_L_led) .none kV_L_led dc_L_led pm_L_led an_L_led cd_L_led ct_L_led), sl_L_led⟩)
    (c_L_led : PySem.W.codeIn K cd_L_led "_law_led" = true)
    (k_L_led : PySem.W.keepIn K (.ref a_L_led) = true)
    (n_L_any : PySem.W.nsIn K mainGlobals "_law_any" = some (some (.ref a_L_any)))
    (l_L_any : K.lookup a_L_any = some ⟨oc_L_any, od_L_any, .func (PySem.W.fnOf "_law_any" "_law_any" (defArgs s_L_any) (defBody s_L_any) (defScope s_L_any) .none kV_L_any dc_L_any pm_L_any an_L_any cd_L_any ct_L_any), sl_L_any⟩)
    (c_L_any : PySem.W.codeIn K cd_L_any "_law_any" = true)
    (k_L_any : PySem.W.keepIn K (.ref a_L_any) = true)
    (n_is_entry : PySem.W.nsIn K mainGlobals "is_entry" = some (some (.ref a_is_entry)))
    (l_is_entry : K.lookup a_is_entry = some ⟨oc_is_entry, od_is_entry, .func (PySem.W.fnOf "is_entry" "is_entry" (defArgs s_is_entry) (defBody s_is_entry) (defScope s_is_entry) .none kV_is_entry dc_is_entry pm_is_entry an_is_entry cd_is_entry ct_is_entry), sl_is_entry⟩)
    (c_is_entry : PySem.W.codeIn K cd_is_entry "is_entry" = true)
    (k_is_entry : PySem.W.keepIn K (.ref a_is_entry) = true)
    (n_is_machine : PySem.W.nsIn K mainGlobals "is_machine" = some (some (.ref a_is_machine)))
    (l_is_machine : K.lookup a_is_machine = some ⟨oc_is_machine, od_is_machine, .func (PySem.W.fnOf "is_machine" "is_machine" (defArgs s_is_machine) (defBody s_is_machine) (defScope s_is_machine) .none kV_is_machine dc_is_machine pm_is_machine an_is_machine cd_is_machine ct_is_machine), sl_is_machine⟩)
    (c_is_machine : PySem.W.codeIn K cd_is_machine "is_machine" = true)
    (k_is_machine : PySem.W.keepIn K (.ref a_is_machine) = true)
    (n_must_machine : PySem.W.nsIn K mainGlobals "must_machine" = some (some (.ref a_must_machine)))
    (l_must_machine : K.lookup a_must_machine = some ⟨oc_must_machine, od_must_machine, .func (PySem.W.fnOf "must_machine" "must_machine" (defArgs s_must_machine) (defBody s_must_machine) (defScope s_must_machine) .none kV_must_machine dc_must_machine pm_must_machine an_must_machine cd_must_machine ct_must_machine), sl_must_machine⟩)
    (c_must_machine : PySem.W.codeIn K cd_must_machine "must_machine" = true)
    (k_must_machine : PySem.W.keepIn K (.ref a_must_machine) = true)
    (n_Goer_init : PySem.W.findIn K (.ref C_Goer) "__init__" = some (some (.ref a_Goer_init)))
    (i_Goer_init : PySem.W.isFn K (.ref a_Goer_init) = true)
    (l_Goer_init : K.lookup a_Goer_init = some ⟨oc_Goer_init, od_Goer_init, .func (PySem.W.fnOf "__init__" "Goer.__init__" (defArgs s_Goer_init) (defBody s_Goer_init) (defScope s_Goer_init) .none kV_Goer_init dc_Goer_init pm_Goer_init an_Goer_init cd_Goer_init ct_Goer_init), sl_Goer_init⟩)
    (c_Goer_init : PySem.W.codeIn K cd_Goer_init "Goer.__init__" = true)
    (k_Goer_init : PySem.W.keepIn K (.ref a_Goer_init) = true)
    (n_told_strip : PySem.W.nsIn K mainGlobals "told_strip" = some (some (.ref a_told_strip)))
    (l_told_strip : K.lookup a_told_strip = some ⟨oc_told_strip, od_told_strip, .func (PySem.W.fnOf "told_strip" "told_strip" (defArgs s_told_strip) (defBody s_told_strip) (defScope s_told_strip) .none kV_told_strip dc_told_strip pm_told_strip an_told_strip cd_told_strip ct_told_strip), sl_told_strip⟩)
    (c_told_strip : PySem.W.codeIn K cd_told_strip "told_strip" = true)
    (k_told_strip : PySem.W.keepIn K (.ref a_told_strip) = true)
    (n_Goer_setup : PySem.W.findIn K (.ref C_Goer) "setup" = some (some (.ref a_Goer_setup)))
    (i_Goer_setup : PySem.W.isFn K (.ref a_Goer_setup) = true)
    (l_Goer_setup : K.lookup a_Goer_setup = some ⟨oc_Goer_setup, od_Goer_setup, .func (PySem.W.fnOf "setup" "Goer.setup" (defArgs s_Goer_setup) (defBody s_Goer_setup) (defScope s_Goer_setup) .none kV_Goer_setup dc_Goer_setup pm_Goer_setup an_Goer_setup cd_Goer_setup ct_Goer_setup), sl_Goer_setup⟩)
    (c_Goer_setup : PySem.W.codeIn K cd_Goer_setup "Goer.setup" = true)
    (k_Goer_setup : PySem.W.keepIn K (.ref a_Goer_setup) = true)
    (n_Goer_entry : PySem.W.findIn K (.ref C_Goer) "entry" = some (some (.ref a_Goer_entry)))
    (i_Goer_entry : PySem.W.isFn K (.ref a_Goer_entry) = true)
    (l_Goer_entry : K.lookup a_Goer_entry = some ⟨oc_Goer_entry, od_Goer_entry, .func (PySem.W.fnOf "entry" "Goer.entry" (defArgs s_Goer_entry) (defBody s_Goer_entry) (defScope s_Goer_entry) .none kV_Goer_entry dc_Goer_entry pm_Goer_entry an_Goer_entry cd_Goer_entry ct_Goer_entry), sl_Goer_entry⟩)
    (c_Goer_entry : PySem.W.codeIn K cd_Goer_entry "Goer.entry" = true)
    (k_Goer_entry : PySem.W.keepIn K (.ref a_Goer_entry) = true)
    (n_Goer_step : PySem.W.findIn K (.ref C_Goer) "step" = some (some (.ref a_Goer_step)))
    (i_Goer_step : PySem.W.isFn K (.ref a_Goer_step) = true)
    (l_Goer_step : K.lookup a_Goer_step = some ⟨oc_Goer_step, od_Goer_step, .func (PySem.W.fnOf "step" "Goer.step" (defArgs s_Goer_step) (defBody s_Goer_step) (defScope s_Goer_step) .none kV_Goer_step dc_Goer_step pm_Goer_step an_Goer_step cd_Goer_step ct_Goer_step), sl_Goer_step⟩)
    (c_Goer_step : PySem.W.codeIn K cd_Goer_step "Goer.step" = true)
    (k_Goer_step : PySem.W.keepIn K (.ref a_Goer_step) = true)
    (n_setups : PySem.W.nsIn K mainGlobals "setups" = some (some (.ref a_setups)))
    (l_setups : K.lookup a_setups = some ⟨oc_setups, od_setups, .func (PySem.W.fnOf "setups" "setups" (defArgs s_setups) (defBody s_setups) (defScope s_setups) .none kV_setups dc_setups pm_setups an_setups cd_setups ct_setups), sl_setups⟩)
    (c_setups : PySem.W.codeIn K cd_setups "setups" = true)
    (k_setups : PySem.W.keepIn K (.ref a_setups) = true)
    (n_plain : PySem.W.nsIn K mainGlobals "plain" = some (some (.ref a_plain)))
    (l_plain : K.lookup a_plain = some ⟨oc_plain, od_plain, .func (PySem.W.fnOf "plain" "plain" (defArgs s_plain) (defBody s_plain) (defScope s_plain) .none kV_plain dc_plain pm_plain an_plain cd_plain ct_plain), sl_plain⟩)
    (c_plain : PySem.W.codeIn K cd_plain "plain" = true)
    (k_plain : PySem.W.keepIn K (.ref a_plain) = true)
    (n_Log_init : PySem.W.findIn K (.ref C_Log) "__init__" = some (some (.ref a_Log_init)))
    (i_Log_init : PySem.W.isFn K (.ref a_Log_init) = true)
    (l_Log_init : K.lookup a_Log_init = some ⟨oc_Log_init, od_Log_init, .func (PySem.W.fnOf "__init__" "Log.__init__" (defArgs s_Log_init) (defBody s_Log_init) (defScope s_Log_init) .none kV_Log_init dc_Log_init pm_Log_init an_Log_init cd_Log_init ct_Log_init), sl_Log_init⟩)
    (c_Log_init : PySem.W.codeIn K cd_Log_init "Log.__init__" = true)
    (k_Log_init : PySem.W.keepIn K (.ref a_Log_init) = true)
    (n_Log_last : PySem.W.findIn K (.ref C_Log) "last" = some (some (.ref a_Log_last)))
    (i_Log_last : PySem.W.isFn K (.ref a_Log_last) = true)
    (l_Log_last : K.lookup a_Log_last = some ⟨oc_Log_last, od_Log_last, .func (PySem.W.fnOf "last" "Log.last" (defArgs s_Log_last) (defBody s_Log_last) (defScope s_Log_last) .none kV_Log_last dc_Log_last pm_Log_last an_Log_last cd_Log_last ct_Log_last), sl_Log_last⟩)
    (c_Log_last : PySem.W.codeIn K cd_Log_last "Log.last" = true)
    (k_Log_last : PySem.W.keepIn K (.ref a_Log_last) = true)
    (n_Log_same : PySem.W.findIn K (.ref C_Log) "same" = some (some (.ref a_Log_same)))
    (i_Log_same : PySem.W.isFn K (.ref a_Log_same) = true)
    (l_Log_same : K.lookup a_Log_same = some ⟨oc_Log_same, od_Log_same, .func (PySem.W.fnOf "same" "Log.same" (defArgs s_Log_same) (defBody s_Log_same) (defScope s_Log_same) .none kV_Log_same dc_Log_same pm_Log_same an_Log_same cd_Log_same ct_Log_same), sl_Log_same⟩)
    (c_Log_same : PySem.W.codeIn K cd_Log_same "Log.same" = true)
    (k_Log_same : PySem.W.keepIn K (.ref a_Log_same) = true)
    (n_ring : PySem.W.nsIn K mainGlobals "ring" = some (some (.ref a_ring)))
    (l_ring : K.lookup a_ring = some ⟨oc_ring, od_ring, .func (PySem.W.fnOf "ring" "ring" (defArgs s_ring) (defBody s_ring) (defScope s_ring) .none kV_ring dc_ring pm_ring an_ring cd_ring ct_ring), sl_ring⟩)
    (c_ring : PySem.W.codeIn K cd_ring "ring" = true)
    (k_ring : PySem.W.keepIn K (.ref a_ring) = true)
    (n_gone : PySem.W.nsIn K mainGlobals "gone" = some (some (.ref a_gone)))
    (l_gone : K.lookup a_gone = some ⟨oc_gone, od_gone, .func (PySem.W.fnOf "gone" "gone" (defArgs s_gone) (defBody s_gone) (defScope s_gone) .none kV_gone dc_gone pm_gone an_gone cd_gone ct_gone), sl_gone⟩)
    (c_gone : PySem.W.codeIn K cd_gone "gone" = true)
    (k_gone : PySem.W.keepIn K (.ref a_gone) = true)
    (n_run : PySem.W.nsIn K mainGlobals "run" = some (some (.ref a_run)))
    (l_run : K.lookup a_run = some ⟨oc_run, od_run, .func (PySem.W.fnOf "run" "run" (defArgs s_run) (defBody s_run) (defScope s_run) .none kV_run dc_run pm_run an_run cd_run ct_run), sl_run⟩)
    (c_run : PySem.W.codeIn K cd_run "run" = true)
    (k_run : PySem.W.keepIn K (.ref a_run) = true)
    (n_Log_drifts : PySem.W.findIn K (.ref C_Log) "drifts" = some (some (.ref a_Log_drifts)))
    (i_Log_drifts : PySem.W.isFn K (.ref a_Log_drifts) = true)
    (l_Log_drifts : K.lookup a_Log_drifts = some ⟨oc_Log_drifts, od_Log_drifts, .func (PySem.W.fnOf "drifts" "Log.drifts" (defArgs s_Log_drifts) (defBody s_Log_drifts) (defScope s_Log_drifts) .none kV_Log_drifts dc_Log_drifts pm_Log_drifts an_Log_drifts cd_Log_drifts ct_Log_drifts), sl_Log_drifts⟩)
    (c_Log_drifts : PySem.W.codeIn K cd_Log_drifts "Log.drifts" = true)
    (k_Log_drifts : PySem.W.keepIn K (.ref a_Log_drifts) = true)
    (n_drift : PySem.W.nsIn K mainGlobals "drift" = some (some (.ref a_drift)))
    (l_drift : K.lookup a_drift = some ⟨oc_drift, od_drift, .func (PySem.W.fnOf "drift" "drift" (defArgs s_drift) (defBody s_drift) (defScope s_drift) .none kV_drift dc_drift pm_drift an_drift cd_drift ct_drift), sl_drift⟩)
    (c_drift : PySem.W.codeIn K cd_drift "drift" = true)
    (k_drift : PySem.W.keepIn K (.ref a_drift) = true)
    (n_is_ring : PySem.W.nsIn K mainGlobals "is_ring" = some (some (.ref a_is_ring)))
    (l_is_ring : K.lookup a_is_ring = some ⟨oc_is_ring, od_is_ring, .func (PySem.W.fnOf "is_ring" "is_ring" (defArgs s_is_ring) (defBody s_is_ring) (defScope s_is_ring) .none kV_is_ring dc_is_ring pm_is_ring an_is_ring cd_is_ring ct_is_ring), sl_is_ring⟩)
    (c_is_ring : PySem.W.codeIn K cd_is_ring "is_ring" = true)
    (k_is_ring : PySem.W.keepIn K (.ref a_is_ring) = true)
    (n_is_drift : PySem.W.nsIn K mainGlobals "is_drift" = some (some (.ref a_is_drift)))
    (l_is_drift : K.lookup a_is_drift = some ⟨oc_is_drift, od_is_drift, .func (PySem.W.fnOf "is_drift" "is_drift" (defArgs s_is_drift) (defBody s_is_drift) (defScope s_is_drift) .none kV_is_drift dc_is_drift pm_is_drift an_is_drift cd_is_drift ct_is_drift), sl_is_drift⟩)
    (c_is_drift : PySem.W.codeIn K cd_is_drift "is_drift" = true)
    (k_is_drift : PySem.W.keepIn K (.ref a_is_drift) = true)
    (n_ends_behind : PySem.W.nsIn K mainGlobals "ends_behind" = some (some (.ref a_ends_behind)))
    (l_ends_behind : K.lookup a_ends_behind = some ⟨oc_ends_behind, od_ends_behind, .func (PySem.W.fnOf "ends_behind" "ends_behind" (defArgs s_ends_behind) (defBody s_ends_behind) (defScope s_ends_behind) .none kV_ends_behind dc_ends_behind pm_ends_behind an_ends_behind cd_ends_behind ct_ends_behind), sl_ends_behind⟩)
    (c_ends_behind : PySem.W.codeIn K cd_ends_behind "ends_behind" = true)
    (k_ends_behind : PySem.W.keepIn K (.ref a_ends_behind) = true)
    (n_shows : PySem.W.nsIn K mainGlobals "shows" = some (some (.ref a_shows)))
    (l_shows : K.lookup a_shows = some ⟨oc_shows, od_shows, .func (PySem.W.fnOf "shows" "shows" (defArgs s_shows) (defBody s_shows) (defScope s_shows) .none kV_shows dc_shows pm_shows an_shows cd_shows ct_shows), sl_shows⟩)
    (c_shows : PySem.W.codeIn K cd_shows "shows" = true)
    (k_shows : PySem.W.keepIn K (.ref a_shows) = true)
    (n_L_goes_round : PySem.W.nsIn K mainGlobals "_law_goes_round" = some (some (.ref a_L_goes_round)))
    (l_L_goes_round : K.lookup a_L_goes_round = some ⟨oc_L_goes_round, od_L_goes_round, .func (PySem.W.fnOf "_law_goes_round" "_law_goes_round" (defArgs s_L_goes_round) (defBody s_L_goes_round) (defScope s_L_goes_round) .none kV_L_goes_round dc_L_goes_round pm_L_goes_round an_L_goes_round cd_L_goes_round ct_L_goes_round), sl_L_goes_round⟩)
    (c_L_goes_round : PySem.W.codeIn K cd_L_goes_round "_law_goes_round" = true)
    (k_L_goes_round : PySem.W.keepIn K (.ref a_L_goes_round) = true)
    (n_law : PySem.W.nsIn K mainGlobals "law" = some (some (.ref a_law)))
    (l_law : K.lookup a_law = some ⟨oc_law, od_law, .func (PySem.W.fnOf "law" "law" (defArgs s_law) (defBody s_law) (defScope s_law) .none kV_law dc_law pm_law an_law cd_law ct_law), sl_law⟩)
    (c_law : PySem.W.codeIn K cd_law "law" = true)
    (k_law : PySem.W.keepIn K (.ref a_law) = true)
    (pg_Goer : PySem.W.plainGet K C_Goer Str.empty = true)
    (hd_Goer : PySem.W.hasDictIn K C_Goer = true)
    (po_Goer : PySem.W.plainOver K C_Goer = true)
    (sa_Goer : PySem.W.findIn K (.ref C_Goer) "__setattr__" = some (some (.builtin "object.__setattr__")))
    (mk_Goer : PySem.W.makesIn K C_Goer = true)
    (kc_Goer : PySem.W.keepIn K (.ref C_Goer) = true)
    (f_Goer_table : PySem.W.findIn K (.ref C_Goer) "table" = some none)
    (f_Goer_row : PySem.W.findIn K (.ref C_Goer) "row" = some none)
    (f_Goer_spot : PySem.W.findIn K (.ref C_Goer) "spot" = some none)
    (f_Goer_signs : PySem.W.findIn K (.ref C_Goer) "signs" = some none)
    (f_Goer_steps : PySem.W.findIn K (.ref C_Goer) "steps" = some none)
    (pg_Log : PySem.W.plainGet K C_Log Str.empty = true)
    (hd_Log : PySem.W.hasDictIn K C_Log = true)
    (po_Log : PySem.W.plainOver K C_Log = true)
    (sa_Log : PySem.W.findIn K (.ref C_Log) "__setattr__" = some (some (.builtin "object.__setattr__")))
    (mk_Log : PySem.W.makesIn K C_Log = true)
    (kc_Log : PySem.W.keepIn K (.ref C_Log) = true)
    (f_Log_rows : PySem.W.findIn K (.ref C_Log) "rows" = some none)
    (f_Log_places : PySem.W.findIn K (.ref C_Log) "places" = some none)
    (f_Log_strips : PySem.W.findIn K (.ref C_Log) "strips" = some none)
    (f_Log_has_ended : PySem.W.findIn K (.ref C_Log) "has_ended" = some none)
    (n_MOST_ROWS : PySem.W.nsIn K mainGlobals "MOST_ROWS" = some (some (.int 4 tk_MOST_ROWS)))
    (n_MOST_SIGNS : PySem.W.nsIn K mainGlobals "MOST_SIGNS" = some (some (.int 4 tk_MOST_SIGNS)))
    (z_range : PySem.W.nsIn K mainGlobals "range" = some none)
    (z_len : PySem.W.nsIn K mainGlobals "len" = some none)
    (z_abs : PySem.W.nsIn K mainGlobals "abs" = some none)
    (z_all : PySem.W.nsIn K mainGlobals "all" = some none)
    (z_dict : PySem.W.nsIn K mainGlobals "dict" = some none)
    (z_sorted : PySem.W.nsIn K mainGlobals "sorted" = some none)
    (z_int : PySem.W.nsIn K mainGlobals "int" = some none)
    (z_list : PySem.W.nsIn K mainGlobals "list" = some none)
    (z_min : PySem.W.nsIn K mainGlobals "min" = some none)
    (z_max : PySem.W.nsIn K mainGlobals "max" = some none)
    (z_set : PySem.W.nsIn K mainGlobals "set" = some none)
    (z_tuple : PySem.W.nsIn K mainGlobals "tuple" = some none) : Tx K mg where
  a_L_mixed := a_L_mixed
  fd_L_mixed := PySem.W.fnOf "_law_mixed" "_law_mixed" (defArgs s_L_mixed) (defBody s_L_mixed) (defScope s_L_mixed) .none kV_L_mixed dc_L_mixed pm_L_mixed an_L_mixed cd_L_mixed ct_L_mixed
  F_L_mixed := fun_mk l_L_mixed c_L_mixed k_L_mixed
  b_L_mixed := (fun_mk (st := s_L_mixed) l_L_mixed c_L_mixed k_L_mixed).binds (ps := ["_law_cell", "_law_k"]) fun _ _ _ _ _ _ us hl => match us, hl with | [_, _], _ => rfl
  m_L_mixed := PySem.W.mg_of X G n_L_mixed
  a_L_purse := a_L_purse
  fd_L_purse := PySem.W.fnOf "_law_purse" "_law_purse" (defArgs s_L_purse) (defBody s_L_purse) (defScope s_L_purse) .none kV_L_purse dc_L_purse pm_L_purse an_L_purse cd_L_purse ct_L_purse
  F_L_purse := fun_mk l_L_purse c_L_purse k_L_purse
  b_L_purse := (fun_mk (st := s_L_purse) l_L_purse c_L_purse k_L_purse).binds (ps := ["_law_script"]) fun _ _ _ _ _ _ us hl => match us, hl with | [_], _ => rfl
  m_L_purse := PySem.W.mg_of X G n_L_purse
  a_L_draw := a_L_draw
  fd_L_draw := PySem.W.fnOf "_law_draw" "_law_draw" (defArgs s_L_draw) (defBody s_L_draw) (defScope s_L_draw) .none kV_L_draw dc_L_draw pm_L_draw an_L_draw cd_L_draw ct_L_draw
  F_L_draw := fun_mk l_L_draw c_L_draw k_L_draw
  b_L_draw := (fun_mk (st := s_L_draw) l_L_draw c_L_draw k_L_draw).binds (ps := ["_law_purse_here", "_law_out_of"]) fun _ _ _ _ _ _ us hl => match us, hl with | [_, _], _ => rfl
  m_L_draw := PySem.W.mg_of X G n_L_draw
  a_L_machine := a_L_machine
  fd_L_machine := PySem.W.fnOf "_law_machine" "_law_machine" (defArgs s_L_machine) (defBody s_L_machine) (defScope s_L_machine) .none kV_L_machine dc_L_machine pm_L_machine an_L_machine cd_L_machine ct_L_machine
  F_L_machine := fun_mk l_L_machine c_L_machine k_L_machine
  b_L_machine := (fun_mk (st := s_L_machine) l_L_machine c_L_machine k_L_machine).binds (ps := ["_law_purse_here"]) fun _ _ _ _ _ _ us hl => match us, hl with | [_], _ => rfl
  m_L_machine := PySem.W.mg_of X G n_L_machine
  a_L_late := a_L_late
  fd_L_late := PySem.W.fnOf "_law_late" "_law_late" (defArgs s_L_late) (defBody s_L_late) (defScope s_L_late) .none kV_L_late dc_L_late pm_L_late an_L_late cd_L_late ct_L_late
  F_L_late := fun_mk l_L_late c_L_late k_L_late
  b_L_late := (fun_mk (st := s_L_late) l_L_late c_L_late k_L_late).binds (ps := ["_law_purse_here"]) fun _ _ _ _ _ _ us hl => match us, hl with | [_], _ => rfl
  m_L_late := PySem.W.mg_of X G n_L_late
  a_L_led := a_L_led
  fd_L_led := PySem.W.fnOf "_law_led" "_law_led" (defArgs s_L_led) (defBody s_L_led) (defScope s_L_led) .none kV_L_led dc_L_led pm_L_led an_L_led cd_L_led ct_L_led
  F_L_led := fun_mk l_L_led c_L_led k_L_led
  b_L_led := (fun_mk (st := s_L_led) l_L_led c_L_led k_L_led).binds (ps := ["_law_purse_here"]) fun _ _ _ _ _ _ us hl => match us, hl with | [_], _ => rfl
  m_L_led := PySem.W.mg_of X G n_L_led
  a_L_any := a_L_any
  fd_L_any := PySem.W.fnOf "_law_any" "_law_any" (defArgs s_L_any) (defBody s_L_any) (defScope s_L_any) .none kV_L_any dc_L_any pm_L_any an_L_any cd_L_any ct_L_any
  F_L_any := fun_mk l_L_any c_L_any k_L_any
  b_L_any := (fun_mk (st := s_L_any) l_L_any c_L_any k_L_any).binds (ps := ["_law_purse_here"]) fun _ _ _ _ _ _ us hl => match us, hl with | [_], _ => rfl
  m_L_any := PySem.W.mg_of X G n_L_any
  a_is_entry := a_is_entry
  fd_is_entry := PySem.W.fnOf "is_entry" "is_entry" (defArgs s_is_entry) (defBody s_is_entry) (defScope s_is_entry) .none kV_is_entry dc_is_entry pm_is_entry an_is_entry cd_is_entry ct_is_entry
  F_is_entry := fun_mk l_is_entry c_is_entry k_is_entry
  b_is_entry := (fun_mk (st := s_is_entry) l_is_entry c_is_entry k_is_entry).binds (ps := ["entry", "rows", "signs"]) fun _ _ _ _ _ _ us hl => match us, hl with | [_, _, _], _ => rfl
  m_is_entry := PySem.W.mg_of X G n_is_entry
  a_is_machine := a_is_machine
  fd_is_machine := PySem.W.fnOf "is_machine" "is_machine" (defArgs s_is_machine) (defBody s_is_machine) (defScope s_is_machine) .none kV_is_machine dc_is_machine pm_is_machine an_is_machine cd_is_machine ct_is_machine
  F_is_machine := fun_mk l_is_machine c_is_machine k_is_machine
  b_is_machine := (fun_mk (st := s_is_machine) l_is_machine c_is_machine k_is_machine).binds (ps := ["machine"]) fun _ _ _ _ _ _ us hl => match us, hl with | [_], _ => rfl
  m_is_machine := PySem.W.mg_of X G n_is_machine
  a_must_machine := a_must_machine
  fd_must_machine := PySem.W.fnOf "must_machine" "must_machine" (defArgs s_must_machine) (defBody s_must_machine) (defScope s_must_machine) .none kV_must_machine dc_must_machine pm_must_machine an_must_machine cd_must_machine ct_must_machine
  F_must_machine := fun_mk l_must_machine c_must_machine k_must_machine
  b_must_machine := (fun_mk (st := s_must_machine) l_must_machine c_must_machine k_must_machine).binds (ps := ["machine"]) fun _ _ _ _ _ _ us hl => match us, hl with | [_], _ => rfl
  m_must_machine := PySem.W.mg_of X G n_must_machine
  a_Goer_init := a_Goer_init
  fd_Goer_init := PySem.W.fnOf "__init__" "Goer.__init__" (defArgs s_Goer_init) (defBody s_Goer_init) (defScope s_Goer_init) .none kV_Goer_init dc_Goer_init pm_Goer_init an_Goer_init cd_Goer_init ct_Goer_init
  F_Goer_init := fun_mk l_Goer_init c_Goer_init k_Goer_init
  b_Goer_init := (fun_mk (st := s_Goer_init) l_Goer_init c_Goer_init k_Goer_init).binds (ps := ["self", "machine", "setup"]) fun _ _ _ _ _ _ us hl => match us, hl with | [_, _, _], _ => rfl
  a_told_strip := a_told_strip
  fd_told_strip := PySem.W.fnOf "told_strip" "told_strip" (defArgs s_told_strip) (defBody s_told_strip) (defScope s_told_strip) .none kV_told_strip dc_told_strip pm_told_strip an_told_strip cd_told_strip ct_told_strip
  F_told_strip := fun_mk l_told_strip c_told_strip k_told_strip
  b_told_strip := (fun_mk (st := s_told_strip) l_told_strip c_told_strip k_told_strip).binds (ps := ["signs"]) fun _ _ _ _ _ _ us hl => match us, hl with | [_], _ => rfl
  m_told_strip := PySem.W.mg_of X G n_told_strip
  a_Goer_setup := a_Goer_setup
  fd_Goer_setup := PySem.W.fnOf "setup" "Goer.setup" (defArgs s_Goer_setup) (defBody s_Goer_setup) (defScope s_Goer_setup) .none kV_Goer_setup dc_Goer_setup pm_Goer_setup an_Goer_setup cd_Goer_setup ct_Goer_setup
  F_Goer_setup := fun_mk l_Goer_setup c_Goer_setup k_Goer_setup
  b_Goer_setup := (fun_mk (st := s_Goer_setup) l_Goer_setup c_Goer_setup k_Goer_setup).binds (ps := ["self"]) fun _ _ _ _ _ _ us hl => match us, hl with | [_], _ => rfl
  a_Goer_entry := a_Goer_entry
  fd_Goer_entry := PySem.W.fnOf "entry" "Goer.entry" (defArgs s_Goer_entry) (defBody s_Goer_entry) (defScope s_Goer_entry) .none kV_Goer_entry dc_Goer_entry pm_Goer_entry an_Goer_entry cd_Goer_entry ct_Goer_entry
  F_Goer_entry := fun_mk l_Goer_entry c_Goer_entry k_Goer_entry
  b_Goer_entry := (fun_mk (st := s_Goer_entry) l_Goer_entry c_Goer_entry k_Goer_entry).binds (ps := ["self"]) fun _ _ _ _ _ _ us hl => match us, hl with | [_], _ => rfl
  a_Goer_step := a_Goer_step
  fd_Goer_step := PySem.W.fnOf "step" "Goer.step" (defArgs s_Goer_step) (defBody s_Goer_step) (defScope s_Goer_step) .none kV_Goer_step dc_Goer_step pm_Goer_step an_Goer_step cd_Goer_step ct_Goer_step
  F_Goer_step := fun_mk l_Goer_step c_Goer_step k_Goer_step
  b_Goer_step := (fun_mk (st := s_Goer_step) l_Goer_step c_Goer_step k_Goer_step).binds (ps := ["self"]) fun _ _ _ _ _ _ us hl => match us, hl with | [_], _ => rfl
  a_setups := a_setups
  fd_setups := PySem.W.fnOf "setups" "setups" (defArgs s_setups) (defBody s_setups) (defScope s_setups) .none kV_setups dc_setups pm_setups an_setups cd_setups ct_setups
  F_setups := fun_mk l_setups c_setups k_setups
  b_setups := (fun_mk (st := s_setups) l_setups c_setups k_setups).binds (ps := ["machine", "most"]) fun _ _ _ _ _ _ us hl => match us, hl with | [_, _], _ => rfl
  m_setups := PySem.W.mg_of X G n_setups
  a_plain := a_plain
  fd_plain := PySem.W.fnOf "plain" "plain" (defArgs s_plain) (defBody s_plain) (defScope s_plain) .none kV_plain dc_plain pm_plain an_plain cd_plain ct_plain
  F_plain := fun_mk l_plain c_plain k_plain
  b_plain := (fun_mk (st := s_plain) l_plain c_plain k_plain).binds (ps := ["signs"]) fun _ _ _ _ _ _ us hl => match us, hl with | [_], _ => rfl
  m_plain := PySem.W.mg_of X G n_plain
  a_Log_init := a_Log_init
  fd_Log_init := PySem.W.fnOf "__init__" "Log.__init__" (defArgs s_Log_init) (defBody s_Log_init) (defScope s_Log_init) .none kV_Log_init dc_Log_init pm_Log_init an_Log_init cd_Log_init ct_Log_init
  F_Log_init := fun_mk l_Log_init c_Log_init k_Log_init
  b_Log_init := (fun_mk (st := s_Log_init) l_Log_init c_Log_init k_Log_init).binds (ps := ["self", "machine", "most"]) fun _ _ _ _ _ _ us hl => match us, hl with | [_, _, _], _ => rfl
  a_Log_last := a_Log_last
  fd_Log_last := PySem.W.fnOf "last" "Log.last" (defArgs s_Log_last) (defBody s_Log_last) (defScope s_Log_last) .none kV_Log_last dc_Log_last pm_Log_last an_Log_last cd_Log_last ct_Log_last
  F_Log_last := fun_mk l_Log_last c_Log_last k_Log_last
  b_Log_last := (fun_mk (st := s_Log_last) l_Log_last c_Log_last k_Log_last).binds (ps := ["self"]) fun _ _ _ _ _ _ us hl => match us, hl with | [_], _ => rfl
  a_Log_same := a_Log_same
  fd_Log_same := PySem.W.fnOf "same" "Log.same" (defArgs s_Log_same) (defBody s_Log_same) (defScope s_Log_same) .none kV_Log_same dc_Log_same pm_Log_same an_Log_same cd_Log_same ct_Log_same
  F_Log_same := fun_mk l_Log_same c_Log_same k_Log_same
  b_Log_same := (fun_mk (st := s_Log_same) l_Log_same c_Log_same k_Log_same).binds (ps := ["self", "one", "other"]) fun _ _ _ _ _ _ us hl => match us, hl with | [_, _, _], _ => rfl
  a_ring := a_ring
  fd_ring := PySem.W.fnOf "ring" "ring" (defArgs s_ring) (defBody s_ring) (defScope s_ring) .none kV_ring dc_ring pm_ring an_ring cd_ring ct_ring
  F_ring := fun_mk l_ring c_ring k_ring
  b_ring := (fun_mk (st := s_ring) l_ring c_ring k_ring).binds (ps := ["machine", "most"]) fun _ _ _ _ _ _ us hl => match us, hl with | [_, _], _ => rfl
  m_ring := PySem.W.mg_of X G n_ring
  a_gone := a_gone
  fd_gone := PySem.W.fnOf "gone" "gone" (defArgs s_gone) (defBody s_gone) (defScope s_gone) .none kV_gone dc_gone pm_gone an_gone cd_gone ct_gone
  F_gone := fun_mk l_gone c_gone k_gone
  b_gone := (fun_mk (st := s_gone) l_gone c_gone k_gone).binds (ps := ["machine", "most"]) fun _ _ _ _ _ _ us hl => match us, hl with | [_, _], _ => rfl
  m_gone := PySem.W.mg_of X G n_gone
  a_run := a_run
  fd_run := PySem.W.fnOf "run" "run" (defArgs s_run) (defBody s_run) (defScope s_run) .none kV_run dc_run pm_run an_run cd_run ct_run
  F_run := fun_mk l_run c_run k_run
  b_run := (fun_mk (st := s_run) l_run c_run k_run).binds (ps := ["machine", "most"]) fun _ _ _ _ _ _ us hl => match us, hl with | [_, _], _ => rfl
  m_run := PySem.W.mg_of X G n_run
  a_Log_drifts := a_Log_drifts
  fd_Log_drifts := PySem.W.fnOf "drifts" "Log.drifts" (defArgs s_Log_drifts) (defBody s_Log_drifts) (defScope s_Log_drifts) .none kV_Log_drifts dc_Log_drifts pm_Log_drifts an_Log_drifts cd_Log_drifts ct_Log_drifts
  F_Log_drifts := fun_mk l_Log_drifts c_Log_drifts k_Log_drifts
  b_Log_drifts := (fun_mk (st := s_Log_drifts) l_Log_drifts c_Log_drifts k_Log_drifts).binds (ps := ["self", "one", "other", "low", "high"]) fun _ _ _ _ _ _ us hl => match us, hl with | [_, _, _, _, _], _ => rfl
  a_drift := a_drift
  fd_drift := PySem.W.fnOf "drift" "drift" (defArgs s_drift) (defBody s_drift) (defScope s_drift) .none kV_drift dc_drift pm_drift an_drift cd_drift ct_drift
  F_drift := fun_mk l_drift c_drift k_drift
  b_drift := (fun_mk (st := s_drift) l_drift c_drift k_drift).binds (ps := ["machine", "most"]) fun _ _ _ _ _ _ us hl => match us, hl with | [_, _], _ => rfl
  m_drift := PySem.W.mg_of X G n_drift
  a_is_ring := a_is_ring
  fd_is_ring := PySem.W.fnOf "is_ring" "is_ring" (defArgs s_is_ring) (defBody s_is_ring) (defScope s_is_ring) .none kV_is_ring dc_is_ring pm_is_ring an_is_ring cd_is_ring ct_is_ring
  F_is_ring := fun_mk l_is_ring c_is_ring k_is_ring
  b_is_ring := (fun_mk (st := s_is_ring) l_is_ring c_is_ring k_is_ring).binds (ps := ["machine", "first", "last"]) fun _ _ _ _ _ _ us hl => match us, hl with | [_, _, _], _ => rfl
  m_is_ring := PySem.W.mg_of X G n_is_ring
  a_is_drift := a_is_drift
  fd_is_drift := PySem.W.fnOf "is_drift" "is_drift" (defArgs s_is_drift) (defBody s_is_drift) (defScope s_is_drift) .none kV_is_drift dc_is_drift pm_is_drift an_is_drift cd_is_drift ct_is_drift
  F_is_drift := fun_mk l_is_drift c_is_drift k_is_drift
  b_is_drift := (fun_mk (st := s_is_drift) l_is_drift c_is_drift k_is_drift).binds (ps := ["machine", "first", "last"]) fun _ _ _ _ _ _ us hl => match us, hl with | [_, _, _], _ => rfl
  m_is_drift := PySem.W.mg_of X G n_is_drift
  a_ends_behind := a_ends_behind
  fd_ends_behind := PySem.W.fnOf "ends_behind" "ends_behind" (defArgs s_ends_behind) (defBody s_ends_behind) (defScope s_ends_behind) .none kV_ends_behind dc_ends_behind pm_ends_behind an_ends_behind cd_ends_behind ct_ends_behind
  F_ends_behind := fun_mk l_ends_behind c_ends_behind k_ends_behind
  b_ends_behind := (fun_mk (st := s_ends_behind) l_ends_behind c_ends_behind k_ends_behind).binds (ps := ["machine", "most"]) fun _ _ _ _ _ _ us hl => match us, hl with | [_, _], _ => rfl
  m_ends_behind := PySem.W.mg_of X G n_ends_behind
  a_shows := a_shows
  fd_shows := PySem.W.fnOf "shows" "shows" (defArgs s_shows) (defBody s_shows) (defScope s_shows) .none kV_shows dc_shows pm_shows an_shows cd_shows ct_shows
  F_shows := fun_mk l_shows c_shows k_shows
  b_shows := (fun_mk (st := s_shows) l_shows c_shows k_shows).binds (ps := ["machine", "paper"]) fun _ _ _ _ _ _ us hl => match us, hl with | [_, _], _ => rfl
  m_shows := PySem.W.mg_of X G n_shows
  a_L_goes_round := a_L_goes_round
  fd_L_goes_round := PySem.W.fnOf "_law_goes_round" "_law_goes_round" (defArgs s_L_goes_round) (defBody s_L_goes_round) (defScope s_L_goes_round) .none kV_L_goes_round dc_L_goes_round pm_L_goes_round an_L_goes_round cd_L_goes_round ct_L_goes_round
  F_L_goes_round := fun_mk l_L_goes_round c_L_goes_round k_L_goes_round
  b_L_goes_round := (fun_mk (st := s_L_goes_round) l_L_goes_round c_L_goes_round k_L_goes_round).binds (ps := ["_law_machine_here", "_law_paper"]) fun _ _ _ _ _ _ us hl => match us, hl with | [_, _], _ => rfl
  m_L_goes_round := PySem.W.mg_of X G n_L_goes_round
  a_law := a_law
  fd_law := PySem.W.fnOf "law" "law" (defArgs s_law) (defBody s_law) (defScope s_law) .none kV_law dc_law pm_law an_law cd_law ct_law
  F_law := fun_mk l_law c_law k_law
  b_law := (fun_mk (st := s_law) l_law c_law k_law).binds (ps := ["_law_script"]) fun _ _ _ _ _ _ us hl => match us, hl with | [_], _ => rfl
  m_law := PySem.W.mg_of X G n_law
  C_NoMachine := C_NoMachine
  m_NoMachine := PySem.W.mg_of X G n_NoMachine
  C_Goer := C_Goer
  m_Goer := PySem.W.mg_of X G n_Goer
  cl_Goer := ⟨pg_Goer, hd_Goer, po_Goer, sa_Goer⟩
  M_Goer := ⟨mk_Goer, n_Goer_init, i_Goer_init, kc_Goer⟩
  M_Goer_entry := ⟨n_Goer_entry, i_Goer_entry, k_Goer_entry⟩
  M_Goer_step := ⟨n_Goer_step, i_Goer_step, k_Goer_step⟩
  M_Goer_setup := ⟨n_Goer_setup, i_Goer_setup, k_Goer_setup⟩
  nA_Goer_table := f_Goer_table
  nA_Goer_row := f_Goer_row
  nA_Goer_spot := f_Goer_spot
  nA_Goer_signs := f_Goer_signs
  nA_Goer_steps := f_Goer_steps
  C_Log := C_Log
  m_Log := PySem.W.mg_of X G n_Log
  cl_Log := ⟨pg_Log, hd_Log, po_Log, sa_Log⟩
  M_Log := ⟨mk_Log, n_Log_init, i_Log_init, kc_Log⟩
  M_Log_last := ⟨n_Log_last, i_Log_last, k_Log_last⟩
  M_Log_same := ⟨n_Log_same, i_Log_same, k_Log_same⟩
  M_Log_drifts := ⟨n_Log_drifts, i_Log_drifts, k_Log_drifts⟩
  nA_Log_rows := f_Log_rows
  nA_Log_places := f_Log_places
  nA_Log_strips := f_Log_strips
  nA_Log_has_ended := f_Log_has_ended
  tk_MOST_ROWS := tk_MOST_ROWS
  m_MOST_ROWS := PySem.W.mg_of X G n_MOST_ROWS
  tk_MOST_SIGNS := tk_MOST_SIGNS
  m_MOST_SIGNS := PySem.W.mg_of X G n_MOST_SIGNS
  n_range := PySem.W.mg_none_of X G z_range
  n_len := PySem.W.mg_none_of X G z_len
  n_abs := PySem.W.mg_none_of X G z_abs
  n_all := PySem.W.mg_none_of X G z_all
  n_dict := PySem.W.mg_none_of X G z_dict
  n_sorted := PySem.W.mg_none_of X G z_sorted
  n_int := PySem.W.mg_none_of X G z_int
  n_list := PySem.W.mg_none_of X G z_list
  n_min := PySem.W.mg_none_of X G z_min
  n_max := PySem.W.mg_none_of X G z_max
  n_set := PySem.W.mg_none_of X G z_set
  n_tuple := PySem.W.mg_none_of X G z_tuple
theorem all_mk {l : PySem.W.OpenLaw} {w : World} {K : PySem.W.Frag} {h : Heap} {mg : Str → Option Value} {fa : Addr} (X : K.In h) (G : h.Ns mainGlobals mg) (hfa : mg "law" = some (.ref fa)) (t : Tx K mg)
    (hb : ∃ (kV dc pm : Value) (an : Option Addr) (cd ct : Value), t.fd_law = PySem.W.fnOf "law" "law" (defArgs s_law) (defBody s_law) (defScope s_law) .none kV dc pm an cd ct) :
    ∃ fd : FuncData, (∀ (s : Shared) (v : Value), BindsTo s fd ⟨[v], []⟩ [("_law_script", v)]) ∧ ∀ base : Heap, K.In base → base.Ns mainGlobals mg → FnOk l.prog w K mg base CX0 8 fa fd ["_law_script"] (sp_law K) := by
  have e := hfa.symm.trans t.m_law
  cases e
  refine ⟨t.fd_law, fun s v => ?_, fun base _ _ => ok_law t⟩
  obtain ⟨kV, dc, pm, an, cd, ct, e⟩ := hb
  rw [e]
  exact .of_eq rfl
theorem walk {l : PySem.W.OpenLaw} {q : Program} {loose : List Str} {XP : (Str → Option Value) → Heap → Prop} {YP : World → Heap → Prop} {d : DefRec} {K : Params → PySem.W.Frag} (hn : l.most = some 63) (hdf : d.params.defaults = [])
    (hY : ∀ (w : World) (h : Heap), YP w h → (K w.params).In h)
    (F : ∀ (w : World) (mg : Str → Option Value) (fa : Addr) (h : Heap), (K w.params).In h → h.Ns mainGlobals mg → mg d.name = some (.ref fa) →
      ∃ fd : FuncData, (∀ (s : Shared) (u : Value), BindsTo s fd ⟨[u], []⟩ [("_law_script", u)]) ∧ ∀ base : Heap, (K w.params).In base → base.Ns mainGlobals mg → FnOk l.prog w (K w.params) mg base CX0 8 fa fd ["_law_script"] (sp_law (K w.params))) :
    PySem.W.WalkO q loose XP YP l.row.toRowW d [] (fun f vs => PySem.call f vs) :=
  L2.walk_of (n := 63) (k := 8) (x := "_law_script") (CX := fun _ => CX0) (sp := fun w => sp_law (K w.params)) hn (by decide) hdf ⟨rfl, by decide, by decide⟩ hY F (fun _ _ a ns hl _ hS => ⟨a, ns, rfl, hS, hl, fun _ => rfl⟩) fun _ _ _ _ _ z => z
theorem all_go {l : PySem.W.OpenLaw} {w : World} {K : PySem.W.Frag} {h : Heap} {mg : Str → Option Value} {fa : Addr} {a_L_mixed a_L_purse a_L_draw a_L_machine a_L_late a_L_led a_L_any a_is_entry a_is_machine a_must_machine a_Goer_init a_told_strip a_Goer_setup a_Goer_entry a_Goer_step a_setups a_plain a_Log_init a_Log_last a_Log_same a_ring a_gone a_run a_Log_drifts a_drift a_is_ring a_is_drift a_ends_behind a_shows a_L_goes_round a_law C_NoMachine C_Goer C_Log : Addr} {od_L_mixed an_L_mixed od_L_purse an_L_purse od_L_draw an_L_draw od_L_machine an_L_machine od_L_late an_L_late od_L_led an_L_led od_L_any an_L_any od_is_entry an_is_entry od_is_machine an_is_machine od_must_machine an_must_machine od_Goer_init an_Goer_init od_told_strip an_told_strip od_Goer_setup an_Goer_setup od_Goer_entry an_Goer_entry od_Goer_step an_Goer_step od_setups an_setups od_plain an_plain od_Log_init an_Log_init od_Log_last an_Log_last od_Log_same an_Log_same od_ring an_ring od_gone an_gone od_run an_run od_Log_drifts an_Log_drifts od_drift an_drift od_is_ring an_is_ring od_is_drift an_is_drift od_ends_behind an_ends_behind od_shows an_shows od_L_goes_round an_L_goes_round od_law an_law : Option Addr} {sl_L_mixed sl_L_purse sl_L_draw sl_L_machine sl_L_late sl_L_led sl_L_any sl_is_entry sl_is_machine sl_must_machine sl_Goer_init sl_told_strip sl_Goer_setup sl_Goer_entry sl_Goer_step sl_setups sl_plain sl_Log_init sl_Log_last sl_Log_same sl_ring sl_gone sl_run sl_Log_drifts sl_drift sl_is_ring sl_is_drift sl_ends_behind sl_shows sl_L_goes_round sl_law : Array (Option Value)} {oc_L_mixed kV_L_mixed dc_L_mixed pm_L_mixed cd_L_mixed ct_L_mixed oc_L_purse kV_L_purse dc_L_purse pm_L_purse cd_L_purse ct_L_purse oc_L_draw kV_L_draw dc_L_draw pm_L_draw cd_L_draw ct_L_draw oc_L_machine kV_L_machine dc_L_machine pm_L_machine cd_L_machine ct_L_machine oc_L_late kV_L_late dc_L_late pm_L_late cd_L_late ct_L_late oc_L_led kV_L_led dc_L_led pm_L_led cd_L_led ct_L_led oc_L_any kV_L_any dc_L_any pm_L_any cd_L_any ct_L_any oc_is_entry kV_is_entry dc_is_entry pm_is_entry cd_is_entry ct_is_entry oc_is_machine kV_is_machine dc_is_machine pm_is_machine cd_is_machine ct_is_machine oc_must_machine kV_must_machine dc_must_machine pm_must_machine cd_must_machine ct_must_machine oc_Goer_init kV_Goer_init dc_Goer_init pm_Goer_init cd_Goer_init ct_Goer_init oc_told_strip kV_told_strip dc_told_strip pm_told_strip cd_told_strip ct_told_strip oc_Goer_setup kV_Goer_setup dc_Goer_setup pm_Goer_setup cd_Goer_setup ct_Goer_setup oc_Goer_entry kV_Goer_entry dc_Goer_entry pm_Goer_entry cd_Goer_entry ct_Goer_entry oc_Goer_step kV_Goer_step dc_Goer_step pm_Goer_step cd_Goer_step ct_Goer_step oc_setups kV_setups dc_setups pm_setups cd_setups ct_setups oc_plain kV_plain dc_plain pm_plain cd_plain ct_plain oc_Log_init kV_Log_init dc_Log_init pm_Log_init cd_Log_init ct_Log_init oc_Log_last kV_Log_last dc_Log_last pm_Log_last cd_Log_last ct_Log_last oc_Log_same kV_Log_same dc_Log_same pm_Log_same cd_Log_same ct_Log_same oc_ring kV_ring dc_ring pm_ring cd_ring ct_ring oc_gone kV_gone dc_gone pm_gone cd_gone ct_gone oc_run kV_run dc_run pm_run cd_run ct_run oc_Log_drifts kV_Log_drifts dc_Log_drifts pm_Log_drifts cd_Log_drifts ct_Log_drifts oc_drift kV_drift dc_drift pm_drift cd_drift ct_drift oc_is_ring kV_is_ring dc_is_ring pm_is_ring cd_is_ring ct_is_ring oc_is_drift kV_is_drift dc_is_drift pm_is_drift cd_is_drift ct_is_drift oc_ends_behind kV_ends_behind dc_ends_behind pm_ends_behind cd_ends_behind ct_ends_behind oc_shows kV_shows dc_shows pm_shows cd_shows ct_shows oc_L_goes_round kV_L_goes_round dc_L_goes_round pm_L_goes_round cd_L_goes_round ct_L_goes_round oc_law kV_law dc_law pm_law cd_law ct_law : Value} {tk_MOST_ROWS tk_MOST_SIGNS : Tok} (X : K.In h) (G : h.Ns mainGlobals mg) (hfa : mg "law" = some (.ref fa))
    (n_NoMachine : PySem.W.nsIn K mainGlobals "NoMachine" = some (some (.ref C_NoMachine)))
    (n_Goer : PySem.W.nsIn K mainGlobals "Goer" = some (some (.ref C_Goer)))
    (n_Log : PySem.W.nsIn K mainGlobals "Log" = some (some (.ref C_Log)))
    (n_L_mixed : PySem.W.nsIn K mainGlobals "_law_mixed" = some (some (.ref a_L_mixed)))
    (l_L_mixed : K.lookup a_L_mixed = some ⟨oc_L_mixed, od_L_mixed, .func (PySem.W.fnOf "_law_mixed" "_law_mixed" (defArgs s_L_mixed) (defBody s_L_mixed) (defScope s_L_mixed) .none kV_L_mixed dc_L_mixed pm_L_mixed an_L_mixed cd_L_mixed ct_L_mixed), sl_L_mixed⟩)
    (c_L_mixed : PySem.W.codeIn K cd_L_mixed "_law_mixed" = true)
    (k_L_mixed : PySem.W.keepIn K (.ref a_L_mixed) = true)
    (n_L_purse : PySem.W.nsIn K mainGlobals "_law_purse" = some (some (.ref a_L_purse)))
    (l_L_purse : K.lookup a_L_purse = some ⟨oc_L_purse, od_L_purse, .func (PySem.W.fnOf "_law_purse" "_law_purse" (defArgs s_L_purse) (defBody s_L_purse) (defScope s_L_purse) .none kV_L_purse dc_L_purse pm_L_purse an_L_purse cd_L_purse ct_L_purse), sl_L_purse⟩)
    (c_L_purse : PySem.W.codeIn K cd_L_purse "_law_purse" = true)
    (k_L_purse : PySem.W.keepIn K (.ref a_L_purse) = true)
    (n_L_draw : PySem.W.nsIn K mainGlobals "_law_draw" = some (some (.ref a_L_draw)))
    (l_L_draw : K.lookup a_L_draw = some ⟨oc_L_draw, od_L_draw, .func (PySem.W.fnOf "_law_draw" "_law_draw" (defArgs s_L_draw) (defBody s_L_draw) (defScope s_L_draw) .none kV_L_draw dc_L_draw pm_L_draw an_L_draw cd_L_draw ct_L_draw), sl_L_draw⟩)
    (c_L_draw : PySem.W.codeIn K cd_L_draw "_law_draw" = true)
    (k_L_draw : PySem.W.keepIn K (.ref a_L_draw) = true)
    (n_L_machine : PySem.W.nsIn K mainGlobals "_law_machine" = some (some (.ref a_L_machine)))
    (l_L_machine : K.lookup a_L_machine = some ⟨oc_L_machine, od_L_machine, .func (PySem.W.fnOf "_law_machine" "_law_machine" (defArgs s_L_machine) (defBody s_L_machine) (defScope s_L_machine) .none kV_L_machine dc_L_machine pm_L_machine an_L_machine cd_L_machine ct_L_machine), sl_L_machine⟩)
    (c_L_machine : PySem.W.codeIn K cd_L_machine "_law_machine" = true)
    (k_L_machine : PySem.W.keepIn K (.ref a_L_machine) = true)
    (n_L_late : PySem.W.nsIn K mainGlobals "_law_late" = some (some (.ref a_L_late)))
    (l_L_late : K.lookup a_L_late = some ⟨oc_L_late, od_L_late, .func (PySem.W.fnOf "_law_late" "_law_late" (defArgs s_L_late) (defBody s_L_late) (defScope s_L_late) .none kV_L_late dc_L_late pm_L_late an_L_late cd_L_late ct_L_late), sl_L_late⟩)
    (c_L_late : PySem.W.codeIn K cd_L_late "_law_late" = true)
    (k_L_late : PySem.W.keepIn K (.ref a_L_late) = true)
    (n_L_led : PySem.W.nsIn K mainGlobals "_law_led" = some (some (.ref a_L_led)))
    (l_L_led : K.lookup a_L_led = some ⟨oc_L_led, od_L_led, .func (PySem.W.fnOf "_law_led" "_law_led" (defArgs s_L_led) (defBody s_L_led) (defScope s_L_led) .none kV_L_led dc_L_led pm_L_led an_L_led cd_L_led ct_L_led), sl_L_led⟩)
    (c_L_led : PySem.W.codeIn K cd_L_led "_law_led" = true)
    (k_L_led : PySem.W.keepIn K (.ref a_L_led) = true)
    (n_L_any : PySem.W.nsIn K mainGlobals "_law_any" = some (some (.ref a_L_any)))
    (l_L_any : K.lookup a_L_any = some ⟨oc_L_any, od_L_any, .func (PySem.W.fnOf "_law_any" "_law_any" (defArgs s_L_any) (defBody s_L_any) (defScope s_L_any) .none kV_L_any dc_L_any pm_L_any an_L_any cd_L_any ct_L_any), sl_L_any⟩)
    (c_L_any : PySem.W.codeIn K cd_L_any "_law_any" = true)
    (k_L_any : PySem.W.keepIn K (.ref a_L_any) = true)
    (n_is_entry : PySem.W.nsIn K mainGlobals "is_entry" = some (some (.ref a_is_entry)))
    (l_is_entry : K.lookup a_is_entry = some ⟨oc_is_entry, od_is_entry, .func (PySem.W.fnOf "is_entry" "is_entry" (defArgs s_is_entry) (defBody s_is_entry) (defScope s_is_entry) .none kV_is_entry dc_is_entry pm_is_entry an_is_entry cd_is_entry ct_is_entry), sl_is_entry⟩)
    (c_is_entry : PySem.W.codeIn K cd_is_entry "is_entry" = true)
    (k_is_entry : PySem.W.keepIn K (.ref a_is_entry) = true)
    (n_is_machine : PySem.W.nsIn K mainGlobals "is_machine" = some (some (.ref a_is_machine)))
    (l_is_machine : K.lookup a_is_machine = some ⟨oc_is_machine, od_is_machine, .func (PySem.W.fnOf "is_machine" "is_machine" (defArgs s_is_machine) (defBody s_is_machine) (defScope s_is_machine) .none kV_is_machine dc_is_machine pm_is_machine an_is_machine cd_is_machine ct_is_machine), sl_is_machine⟩)
    (c_is_machine : PySem.W.codeIn K cd_is_machine "is_machine" = true)
    (k_is_machine : PySem.W.keepIn K (.ref a_is_machine) = true)
    (n_must_machine : PySem.W.nsIn K mainGlobals "must_machine" = some (some (.ref a_must_machine)))
    (l_must_machine : K.lookup a_must_machine = some ⟨oc_must_machine, od_must_machine, .func (PySem.W.fnOf "must_machine" "must_machine" (defArgs s_must_machine) (defBody s_must_machine) (defScope s_must_machine) .none kV_must_machine dc_must_machine pm_must_machine an_must_machine cd_must_machine ct_must_machine), sl_must_machine⟩)
    (c_must_machine : PySem.W.codeIn K cd_must_machine "must_machine" = true)
    (k_must_machine : PySem.W.keepIn K (.ref a_must_machine) = true)
    (n_Goer_init : PySem.W.findIn K (.ref C_Goer) "__init__" = some (some (.ref a_Goer_init)))
    (i_Goer_init : PySem.W.isFn K (.ref a_Goer_init) = true)
    (l_Goer_init : K.lookup a_Goer_init = some ⟨oc_Goer_init, od_Goer_init, .func (PySem.W.fnOf "__init__" "Goer.__init__" (defArgs s_Goer_init) (defBody s_Goer_init) (defScope s_Goer_init) .none kV_Goer_init dc_Goer_init pm_Goer_init an_Goer_init cd_Goer_init ct_Goer_init), sl_Goer_init⟩)
    (c_Goer_init : PySem.W.codeIn K cd_Goer_init "Goer.__init__" = true)
    (k_Goer_init : PySem.W.keepIn K (.ref a_Goer_init) = true)
    (n_told_strip : PySem.W.nsIn K mainGlobals "told_strip" = some (some (.ref a_told_strip)))
    (l_told_strip : K.lookup a_told_strip = some ⟨oc_told_strip, od_told_strip, .func (PySem.W.fnOf "told_strip" "told_strip" (defArgs s_told_strip) (defBody s_told_strip) (defScope s_told_strip) .none kV_told_strip dc_told_strip pm_told_strip an_told_strip cd_told_strip ct_told_strip), sl_told_strip⟩)
    (c_told_strip : PySem.W.codeIn K cd_told_strip "told_strip" = true)
    (k_told_strip : PySem.W.keepIn K (.ref a_told_strip) = true)
    (n_Goer_setup : PySem.W.findIn K (.ref C_Goer) "setup" = some (some (.ref a_Goer_setup)))
    (i_Goer_setup : PySem.W.isFn K (.ref a_Goer_setup) = true)
    (l_Goer_setup : K.lookup a_Goer_setup = some ⟨oc_Goer_setup, od_Goer_setup, .func (PySem.W.fnOf "setup" "Goer.setup" (defArgs s_Goer_setup) (defBody s_Goer_setup) (defScope s_Goer_setup) .none kV_Goer_setup dc_Goer_setup pm_Goer_setup an_Goer_setup cd_Goer_setup ct_Goer_setup), sl_Goer_setup⟩)
    (c_Goer_setup : PySem.W.codeIn K cd_Goer_setup "Goer.setup" = true)
    (k_Goer_setup : PySem.W.keepIn K (.ref a_Goer_setup) = true)
    (n_Goer_entry : PySem.W.findIn K (.ref C_Goer) "entry" = some (some (.ref a_Goer_entry)))
    (i_Goer_entry : PySem.W.isFn K (.ref a_Goer_entry) = true)
    (l_Goer_entry : K.lookup a_Goer_entry = some ⟨oc_Goer_entry, od_Goer_entry, .func (PySem.W.fnOf "entry" "Goer.entry" (defArgs s_Goer_entry) (defBody s_Goer_entry) (defScope s_Goer_entry) .none kV_Goer_entry dc_Goer_entry pm_Goer_entry an_Goer_entry cd_Goer_entry ct_Goer_entry), sl_Goer_entry⟩)
    (c_Goer_entry : PySem.W.codeIn K cd_Goer_entry "Goer.entry" = true)
    (k_Goer_entry : PySem.W.keepIn K (.ref a_Goer_entry) = true)
    (n_Goer_step : PySem.W.findIn K (.ref C_Goer) "step" = some (some (.ref a_Goer_step)))
    (i_Goer_step : PySem.W.isFn K (.ref a_Goer_step) = true)
    (l_Goer_step : K.lookup a_Goer_step = some ⟨oc_Goer_step, od_Goer_step, .func (PySem.W.fnOf "step" "Goer.step" (defArgs s_Goer_step) (defBody s_Goer_step) (defScope s_Goer_step) .none kV_Goer_step dc_Goer_step pm_Goer_step an_Goer_step cd_Goer_step ct_Goer_step), sl_Goer_step⟩)
    (c_Goer_step : PySem.W.codeIn K cd_Goer_step "Goer.step" = true)
    (k_Goer_step : PySem.W.keepIn K (.ref a_Goer_step) = true)
    (n_setups : PySem.W.nsIn K mainGlobals "setups" = some (some (.ref a_setups)))
    (l_setups : K.lookup a_setups = some ⟨oc_setups, od_setups, .func (PySem.W.fnOf "setups" "setups" (defArgs s_setups) (defBody s_setups) (defScope s_setups) .none kV_setups dc_setups pm_setups an_setups cd_setups ct_setups), sl_setups⟩)
    (c_setups : PySem.W.codeIn K cd_setups "setups" = true)
    (k_setups : PySem.W.keepIn K (.ref a_setups) = true)
    (n_plain : PySem.W.nsIn K mainGlobals "plain" = some (some (.ref a_plain)))
    (l_plain : K.lookup a_plain = some ⟨oc_plain, od_plain, .func (PySem.W.fnOf "plain" "plain" (defArgs s_plain) (defBody s_plain) (defScope s_plain) .none kV_plain dc_plain pm_plain an_plain cd_plain ct_plain), sl_plain⟩)
    (c_plain : PySem.W.codeIn K cd_plain "plain" = true)
    (k_plain : PySem.W.keepIn K (.ref a_plain) = true)
    (n_Log_init : PySem.W.findIn K (.ref C_Log) "__init__" = some (some (.ref a_Log_init)))
    (i_Log_init : PySem.W.isFn K (.ref a_Log_init) = true)
    (l_Log_init : K.lookup a_Log_init = some ⟨oc_Log_init, od_Log_init, .func (PySem.W.fnOf "__init__" "Log.__init__" (defArgs s_Log_init) (defBody s_Log_init) (defScope s_Log_init) .none kV_Log_init dc_Log_init pm_Log_init an_Log_init cd_Log_init ct_Log_init), sl_Log_init⟩)
    (c_Log_init : PySem.W.codeIn K cd_Log_init "Log.__init__" = true)
    (k_Log_init : PySem.W.keepIn K (.ref a_Log_init) = true)
    (n_Log_last : PySem.W.findIn K (.ref C_Log) "last" = some (some (.ref a_Log_last)))
    (i_Log_last : PySem.W.isFn K (.ref a_Log_last) = true)
    (l_Log_last : K.lookup a_Log_last = some ⟨oc_Log_last, od_Log_last, .func (PySem.W.fnOf "last" "Log.last" (defArgs s_Log_last) (defBody s_Log_last) (defScope s_Log_last) .none kV_Log_last dc_Log_last pm_Log_last an_Log_last cd_Log_last ct_Log_last), sl_Log_last⟩)
    (c_Log_last : PySem.W.codeIn K cd_Log_last "Log.last" = true)
    (k_Log_last : PySem.W.keepIn K (.ref a_Log_last) = true)
    (n_Log_same : PySem.W.findIn K (.ref C_Log) "same" = some (some (.ref a_Log_same)))
    (i_Log_same : PySem.W.isFn K (.ref a_Log_same) = true)
    (l_Log_same : K.lookup a_Log_same = some ⟨oc_Log_same, od_Log_same, .func (PySem.W.fnOf "same" "Log.same" (defArgs s_Log_same) (defBody s_Log_same) (defScope s_Log_same) .none kV_Log_same dc_Log_same pm_Log_same an_Log_same cd_Log_same ct_Log_same), sl_Log_same⟩)
    (c_Log_same : PySem.W.codeIn K cd_Log_same "Log.same" = true)
    (k_Log_same : PySem.W.keepIn K (.ref a_Log_same) = true)
    (n_ring : PySem.W.nsIn K mainGlobals "ring" = some (some (.ref a_ring)))
    (l_ring : K.lookup a_ring = some ⟨oc_ring, od_ring, .func (PySem.W.fnOf "ring" "ring" (defArgs s_ring) (defBody s_ring) (defScope s_ring) .none kV_ring dc_ring pm_ring an_ring cd_ring ct_ring), sl_ring⟩)
    (c_ring : PySem.W.codeIn K cd_ring "ring" = true)
    (k_ring : PySem.W.keepIn K (.ref a_ring) = true)
    (n_gone : PySem.W.nsIn K mainGlobals "gone" = some (some (.ref a_gone)))
    (l_gone : K.lookup a_gone = some ⟨oc_gone, od_gone, .func (PySem.W.fnOf "gone" "gone" (defArgs s_gone) (defBody s_gone) (defScope s_gone) .none kV_gone dc_gone pm_gone an_gone cd_gone ct_gone), sl_gone⟩)
    (c_gone : PySem.W.codeIn K cd_gone "gone" = true)
    (k_gone : PySem.W.keepIn K (.ref a_gone) = true)
    (n_run : PySem.W.nsIn K mainGlobals "run" = some (some (.ref a_run)))
    (l_run : K.lookup a_run = some ⟨oc_run, od_run, .func (PySem.W.fnOf "run" "run" (defArgs s_run) (defBody s_run) (defScope s_run) .none kV_run dc_run pm_run an_run cd_run ct_run), sl_run⟩)
    (c_run : PySem.W.codeIn K cd_run "run" = true)
    (k_run : PySem.W.keepIn K (.ref a_run) = true)
    (n_Log_drifts : PySem.W.findIn K (.ref C_Log) "drifts" = some (some (.ref a_Log_drifts)))
    (i_Log_drifts : PySem.W.isFn K (.ref a_Log_drifts) = true)
    (l_Log_drifts : K.lookup a_Log_drifts = some ⟨oc_Log_drifts, od_Log_drifts, .func (PySem.W.fnOf "drifts" "Log.drifts" (defArgs s_Log_drifts) (defBody s_Log_drifts) (defScope s_Log_drifts) .none kV_Log_drifts dc_Log_drifts pm_Log_drifts an_Log_drifts cd_Log_drifts ct_Log_drifts), sl_Log_drifts⟩)
    (c_Log_drifts : PySem.W.codeIn K cd_Log_drifts "Log.drifts" = true)
    (k_Log_drifts : PySem.W.keepIn K (.ref a_Log_drifts) = true)
    (n_drift : PySem.W.nsIn K mainGlobals "drift" = some (some (.ref a_drift)))
    (l_drift : K.lookup a_drift = some ⟨oc_drift, od_drift, .func (PySem.W.fnOf "drift" "drift" (defArgs s_drift) (defBody s_drift) (defScope s_drift) .none kV_drift dc_drift pm_drift an_drift cd_drift ct_drift), sl_drift⟩)
    (c_drift : PySem.W.codeIn K cd_drift "drift" = true)
    (k_drift : PySem.W.keepIn K (.ref a_drift) = true)
    (n_is_ring : PySem.W.nsIn K mainGlobals "is_ring" = some (some (.ref a_is_ring)))
    (l_is_ring : K.lookup a_is_ring = some ⟨oc_is_ring, od_is_ring, .func (PySem.W.fnOf "is_ring" "is_ring" (defArgs s_is_ring) (defBody s_is_ring) (defScope s_is_ring) .none kV_is_ring dc_is_ring pm_is_ring an_is_ring cd_is_ring ct_is_ring), sl_is_ring⟩)
    (c_is_ring : PySem.W.codeIn K cd_is_ring "is_ring" = true)
    (k_is_ring : PySem.W.keepIn K (.ref a_is_ring) = true)
    (n_is_drift : PySem.W.nsIn K mainGlobals "is_drift" = some (some (.ref a_is_drift)))
    (l_is_drift : K.lookup a_is_drift = some ⟨oc_is_drift, od_is_drift, .func (PySem.W.fnOf "is_drift" "is_drift" (defArgs s_is_drift) (defBody s_is_drift) (defScope s_is_drift) .none kV_is_drift dc_is_drift pm_is_drift an_is_drift cd_is_drift ct_is_drift), sl_is_drift⟩)
    (c_is_drift : PySem.W.codeIn K cd_is_drift "is_drift" = true)
    (k_is_drift : PySem.W.keepIn K (.ref a_is_drift) = true)
    (n_ends_behind : PySem.W.nsIn K mainGlobals "ends_behind" = some (some (.ref a_ends_behind)))
    (l_ends_behind : K.lookup a_ends_behind = some ⟨oc_ends_behind, od_ends_behind, .func (PySem.W.fnOf "ends_behind" "ends_behind" (defArgs s_ends_behind) (defBody s_ends_behind) (defScope s_ends_behind) .none kV_ends_behind dc_ends_behind pm_ends_behind an_ends_behind cd_ends_behind ct_ends_behind), sl_ends_behind⟩)
    (c_ends_behind : PySem.W.codeIn K cd_ends_behind "ends_behind" = true)
    (k_ends_behind : PySem.W.keepIn K (.ref a_ends_behind) = true)
    (n_shows : PySem.W.nsIn K mainGlobals "shows" = some (some (.ref a_shows)))
    (l_shows : K.lookup a_shows = some ⟨oc_shows, od_shows, .func (PySem.W.fnOf "shows" "shows" (defArgs s_shows) (defBody s_shows) (defScope s_shows) .none kV_shows dc_shows pm_shows an_shows cd_shows ct_shows), sl_shows⟩)
    (c_shows : PySem.W.codeIn K cd_shows "shows" = true)
    (k_shows : PySem.W.keepIn K (.ref a_shows) = true)
    (n_L_goes_round : PySem.W.nsIn K mainGlobals "_law_goes_round" = some (some (.ref a_L_goes_round)))
    (l_L_goes_round : K.lookup a_L_goes_round = some ⟨oc_L_goes_round, od_L_goes_round, .func (PySem.W.fnOf "_law_goes_round" "_law_goes_round" (defArgs s_L_goes_round) (defBody s_L_goes_round) (defScope s_L_goes_round) .none kV_L_goes_round dc_L_goes_round pm_L_goes_round an_L_goes_round cd_L_goes_round ct_L_goes_round), sl_L_goes_round⟩)
    (c_L_goes_round : PySem.W.codeIn K cd_L_goes_round "_law_goes_round" = true)
    (k_L_goes_round : PySem.W.keepIn K (.ref a_L_goes_round) = true)
    (n_law : PySem.W.nsIn K mainGlobals "law" = some (some (.ref a_law)))
    (l_law : K.lookup a_law = some ⟨oc_law, od_law, .func (PySem.W.fnOf "law" "law" (defArgs s_law) (defBody s_law) (defScope s_law) .none kV_law dc_law pm_law an_law cd_law ct_law), sl_law⟩)
    (c_law : PySem.W.codeIn K cd_law "law" = true)
    (k_law : PySem.W.keepIn K (.ref a_law) = true)
    (pg_Goer : PySem.W.plainGet K C_Goer Str.empty = true)
    (hd_Goer : PySem.W.hasDictIn K C_Goer = true)
    (po_Goer : PySem.W.plainOver K C_Goer = true)
    (sa_Goer : PySem.W.findIn K (.ref C_Goer) "__setattr__" = some (some (.builtin "object.__setattr__")))
    (mk_Goer : PySem.W.makesIn K C_Goer = true)
    (kc_Goer : PySem.W.keepIn K (.ref C_Goer) = true)
    (f_Goer_table : PySem.W.findIn K (.ref C_Goer) "table" = some none)
    (f_Goer_row : PySem.W.findIn K (.ref C_Goer) "row" = some none)
    (f_Goer_spot : PySem.W.findIn K (.ref C_Goer) "spot" = some none)
    (f_Goer_signs : PySem.W.findIn K (.ref C_Goer) "signs" = some none)
    (f_Goer_steps : PySem.W.findIn K (.ref C_Goer) "steps" = some none)
    (pg_Log : PySem.W.plainGet K C_Log Str.empty = true)
    (hd_Log : PySem.W.hasDictIn K C_Log = true)
    (po_Log : PySem.W.plainOver K C_Log = true)
    (sa_Log : PySem.W.findIn K (.ref C_Log) "__setattr__" = some (some (.builtin "object.__setattr__")))
    (mk_Log : PySem.W.makesIn K C_Log = true)
    (kc_Log : PySem.W.keepIn K (.ref C_Log) = true)
    (f_Log_rows : PySem.W.findIn K (.ref C_Log) "rows" = some none)
    (f_Log_places : PySem.W.findIn K (.ref C_Log) "places" = some none)
    (f_Log_strips : PySem.W.findIn K (.ref C_Log) "strips" = some none)
    (f_Log_has_ended : PySem.W.findIn K (.ref C_Log) "has_ended" = some none)
    (n_MOST_ROWS : PySem.W.nsIn K mainGlobals "MOST_ROWS" = some (some (.int 4 tk_MOST_ROWS)))
    (n_MOST_SIGNS : PySem.W.nsIn K mainGlobals "MOST_SIGNS" = some (some (.int 4 tk_MOST_SIGNS)))
    (z_range : PySem.W.nsIn K mainGlobals "range" = some none)
    (z_len : PySem.W.nsIn K mainGlobals "len" = some none)
    (z_abs : PySem.W.nsIn K mainGlobals "abs" = some none)
    (z_all : PySem.W.nsIn K mainGlobals "all" = some none)
    (z_dict : PySem.W.nsIn K mainGlobals "dict" = some none)
    (z_sorted : PySem.W.nsIn K mainGlobals "sorted" = some none)
    (z_int : PySem.W.nsIn K mainGlobals "int" = some none)
    (z_list : PySem.W.nsIn K mainGlobals "list" = some none)
    (z_min : PySem.W.nsIn K mainGlobals "min" = some none)
    (z_max : PySem.W.nsIn K mainGlobals "max" = some none)
    (z_set : PySem.W.nsIn K mainGlobals "set" = some none)
    (z_tuple : PySem.W.nsIn K mainGlobals "tuple" = some none) :
    ∃ fd : FuncData, (∀ (s : Shared) (v : Value), BindsTo s fd ⟨[v], []⟩ [("_law_script", v)]) ∧ ∀ base : Heap, K.In base → base.Ns mainGlobals mg → FnOk l.prog w K mg base CX0 8 fa fd ["_law_script"] (sp_law K) :=
  all_mk X G hfa (all_tx X G n_NoMachine n_Goer n_Log n_L_mixed l_L_mixed c_L_mixed k_L_mixed n_L_purse l_L_purse c_L_purse k_L_purse n_L_draw l_L_draw c_L_draw k_L_draw n_L_machine l_L_machine c_L_machine k_L_machine n_L_late l_L_late c_L_late k_L_late n_L_led l_L_led c_L_led k_L_led n_L_any l_L_any c_L_any k_L_any n_is_entry l_is_entry c_is_entry k_is_entry n_is_machine l_is_machine c_is_machine k_is_machine n_must_machine l_must_machine c_must_machine k_must_machine n_Goer_init i_Goer_init l_Goer_init c_Goer_init k_Goer_init n_told_strip l_told_strip c_told_strip k_told_strip n_Goer_setup i_Goer_setup l_Goer_setup c_Goer_setup k_Goer_setup n_Goer_entry i_Goer_entry l_Goer_entry c_Goer_entry k_Goer_entry n_Goer_step i_Goer_step l_Goer_step c_Goer_step k_Goer_step n_setups l_setups c_setups k_setups n_plain l_plain c_plain k_plain n_Log_init i_Log_init l_Log_init c_Log_init k_Log_init n_Log_last i_Log_last l_Log_last c_Log_last k_Log_last n_Log_same i_Log_same l_Log_same c_Log_same k_Log_same n_ring l_ring c_ring k_ring n_gone l_gone c_gone k_gone n_run l_run c_run k_run n_Log_drifts i_Log_drifts l_Log_drifts c_Log_drifts k_Log_drifts n_drift l_drift c_drift k_drift n_is_ring l_is_ring c_is_ring k_is_ring n_is_drift l_is_drift c_is_drift k_is_drift n_ends_behind l_ends_behind c_ends_behind k_ends_behind n_shows l_shows c_shows k_shows n_L_goes_round l_L_goes_round c_L_goes_round k_L_goes_round n_law l_law c_law k_law pg_Goer hd_Goer po_Goer sa_Goer mk_Goer kc_Goer f_Goer_table f_Goer_row f_Goer_spot f_Goer_signs f_Goer_steps pg_Log hd_Log po_Log sa_Log mk_Log kc_Log f_Log_rows f_Log_places f_Log_strips f_Log_has_ended n_MOST_ROWS n_MOST_SIGNS z_range z_len z_abs z_all z_dict z_sorted z_int z_list z_min z_max z_set z_tuple) ⟨_, _, _, _, _, _, rfl⟩
end E
open PySem PySem.W PyProof.Rows
set_option maxRecDepth 100000 in
set_option maxHeartbeats 0 in
theorem PySem.Challenge.cw_endnever_k25_whole_papers_never_end_holds : PySem.Challenge.rw_endnever_k25_whole_papers_never_end.Holds := by
  w_on; o_law; k_head; (case hw => w_witness2)
  k_fill
  refine E.walk (l := PySem.Challenge.rw_endnever_k25_whole_papers_never_end) rfl rfl (fun w h Y => PySem.W.kIn_of Y) ?F
  case F =>
    intro w mg fa h KX G hmg
    refine' E.all_go KX G hmg ?n_NoMachine ?n_Goer ?n_Log ?n_L_mixed ?l_L_mixed ?c_L_mixed ?k_L_mixed ?n_L_purse ?l_L_purse ?c_L_purse ?k_L_purse ?n_L_draw ?l_L_draw ?c_L_draw ?k_L_draw ?n_L_machine ?l_L_machine ?c_L_machine ?k_L_machine ?n_L_late ?l_L_late ?c_L_late ?k_L_late ?n_L_led ?l_L_led ?c_L_led ?k_L_led ?n_L_any ?l_L_any ?c_L_any ?k_L_any ?n_is_entry ?l_is_entry ?c_is_entry ?k_is_entry ?n_is_machine ?l_is_machine ?c_is_machine ?k_is_machine ?n_must_machine ?l_must_machine ?c_must_machine ?k_must_machine ?n_Goer_init ?i_Goer_init ?l_Goer_init ?c_Goer_init ?k_Goer_init ?n_told_strip ?l_told_strip ?c_told_strip ?k_told_strip ?n_Goer_setup ?i_Goer_setup ?l_Goer_setup ?c_Goer_setup ?k_Goer_setup ?n_Goer_entry ?i_Goer_entry ?l_Goer_entry ?c_Goer_entry ?k_Goer_entry ?n_Goer_step ?i_Goer_step ?l_Goer_step ?c_Goer_step ?k_Goer_step ?n_setups ?l_setups ?c_setups ?k_setups ?n_plain ?l_plain ?c_plain ?k_plain ?n_Log_init ?i_Log_init ?l_Log_init ?c_Log_init ?k_Log_init ?n_Log_last ?i_Log_last ?l_Log_last ?c_Log_last ?k_Log_last ?n_Log_same ?i_Log_same ?l_Log_same ?c_Log_same ?k_Log_same ?n_ring ?l_ring ?c_ring ?k_ring ?n_gone ?l_gone ?c_gone ?k_gone ?n_run ?l_run ?c_run ?k_run ?n_Log_drifts ?i_Log_drifts ?l_Log_drifts ?c_Log_drifts ?k_Log_drifts ?n_drift ?l_drift ?c_drift ?k_drift ?n_is_ring ?l_is_ring ?c_is_ring ?k_is_ring ?n_is_drift ?l_is_drift ?c_is_drift ?k_is_drift ?n_ends_behind ?l_ends_behind ?c_ends_behind ?k_ends_behind ?n_shows ?l_shows ?c_shows ?k_shows ?n_L_goes_round ?l_L_goes_round ?c_L_goes_round ?k_L_goes_round ?n_law ?l_law ?c_law ?k_law ?pg_Goer ?hd_Goer ?po_Goer ?sa_Goer ?mk_Goer ?kc_Goer ?f_Goer_table ?f_Goer_row ?f_Goer_spot ?f_Goer_signs ?f_Goer_steps ?pg_Log ?hd_Log ?po_Log ?sa_Log ?mk_Log ?kc_Log ?f_Log_rows ?f_Log_places ?f_Log_strips ?f_Log_has_ended ?n_MOST_ROWS ?n_MOST_SIGNS ?z_range ?z_len ?z_abs ?z_all ?z_dict ?z_sorted ?z_int ?z_list ?z_min ?z_max ?z_set ?z_tuple
    (case n_NoMachine => k_is); (case n_Goer => k_is); (case n_Log => k_is); (case n_L_mixed => k_is); (case l_L_mixed => k_is); (case c_L_mixed => k_is); (case k_L_mixed => k_is); (case n_L_purse => k_is)
    (case l_L_purse => k_is); (case c_L_purse => k_is); (case k_L_purse => k_is); (case n_L_draw => k_is); (case l_L_draw => k_is); (case c_L_draw => k_is); (case k_L_draw => k_is); (case n_L_machine => k_is)
    (case l_L_machine => k_is); (case c_L_machine => k_is); (case k_L_machine => k_is); (case n_L_late => k_is); (case l_L_late => k_is); (case c_L_late => k_is); (case k_L_late => k_is); (case n_L_led => k_is)
    (case l_L_led => k_is); (case c_L_led => k_is); (case k_L_led => k_is); (case n_L_any => k_is); (case l_L_any => k_is); (case c_L_any => k_is); (case k_L_any => k_is); (case n_is_entry => k_is)
    (case l_is_entry => k_is); (case c_is_entry => k_is); (case k_is_entry => k_is); (case n_is_machine => k_is); (case l_is_machine => k_is); (case c_is_machine => k_is); (case k_is_machine => k_is); (case n_must_machine => k_is)
    (case l_must_machine => k_is); (case c_must_machine => k_is); (case k_must_machine => k_is); (case n_Goer_init => k_is); (case i_Goer_init => k_is); (case l_Goer_init => k_is); (case c_Goer_init => k_is); (case k_Goer_init => k_is)
    (case n_told_strip => k_is); (case l_told_strip => k_is); (case c_told_strip => k_is); (case k_told_strip => k_is); (case n_Goer_setup => k_is); (case i_Goer_setup => k_is); (case l_Goer_setup => k_is); (case c_Goer_setup => k_is)
    (case k_Goer_setup => k_is); (case n_Goer_entry => k_is); (case i_Goer_entry => k_is); (case l_Goer_entry => k_is); (case c_Goer_entry => k_is); (case k_Goer_entry => k_is); (case n_Goer_step => k_is); (case i_Goer_step => k_is)
    (case l_Goer_step => k_is); (case c_Goer_step => k_is); (case k_Goer_step => k_is); (case n_setups => k_is); (case l_setups => k_is); (case c_setups => k_is); (case k_setups => k_is); (case n_plain => k_is)
    (case l_plain => k_is); (case c_plain => k_is); (case k_plain => k_is); (case n_Log_init => k_is); (case i_Log_init => k_is); (case l_Log_init => k_is); (case c_Log_init => k_is); (case k_Log_init => k_is)
    (case n_Log_last => k_is); (case i_Log_last => k_is); (case l_Log_last => k_is); (case c_Log_last => k_is); (case k_Log_last => k_is); (case n_Log_same => k_is); (case i_Log_same => k_is); (case l_Log_same => k_is)
    (case c_Log_same => k_is); (case k_Log_same => k_is); (case n_ring => k_is); (case l_ring => k_is); (case c_ring => k_is); (case k_ring => k_is); (case n_gone => k_is); (case l_gone => k_is)
    (case c_gone => k_is); (case k_gone => k_is); (case n_run => k_is); (case l_run => k_is); (case c_run => k_is); (case k_run => k_is); (case n_Log_drifts => k_is); (case i_Log_drifts => k_is)
    (case l_Log_drifts => k_is); (case c_Log_drifts => k_is); (case k_Log_drifts => k_is); (case n_drift => k_is); (case l_drift => k_is); (case c_drift => k_is); (case k_drift => k_is); (case n_is_ring => k_is)
    (case l_is_ring => k_is); (case c_is_ring => k_is); (case k_is_ring => k_is); (case n_is_drift => k_is); (case l_is_drift => k_is); (case c_is_drift => k_is); (case k_is_drift => k_is); (case n_ends_behind => k_is)
    (case l_ends_behind => k_is); (case c_ends_behind => k_is); (case k_ends_behind => k_is); (case n_shows => k_is); (case l_shows => k_is); (case c_shows => k_is); (case k_shows => k_is); (case n_L_goes_round => k_is)
    (case l_L_goes_round => k_is); (case c_L_goes_round => k_is); (case k_L_goes_round => k_is); (case n_law => k_is); (case l_law => k_is); (case c_law => k_is); (case k_law => k_is); (case pg_Goer => k_is)
    (case hd_Goer => k_is); (case po_Goer => k_is); (case sa_Goer => k_is); (case mk_Goer => k_is); (case kc_Goer => k_is); (case f_Goer_table => k_is); (case f_Goer_row => k_is); (case f_Goer_spot => k_is)
    (case f_Goer_signs => k_is); (case f_Goer_steps => k_is); (case pg_Log => k_is); (case hd_Log => k_is); (case po_Log => k_is); (case sa_Log => k_is); (case mk_Log => k_is); (case kc_Log => k_is)
    (case f_Log_rows => k_is); (case f_Log_places => k_is); (case f_Log_strips => k_is); (case f_Log_has_ended => k_is); (case n_MOST_ROWS => k_is); (case n_MOST_SIGNS => k_is); (case z_range => k_is); (case z_len => k_is)
    (case z_abs => k_is); (case z_all => k_is); (case z_dict => k_is); (case z_sorted => k_is); (case z_int => k_is); (case z_list => k_is); (case z_min => k_is); (case z_max => k_is)
    (case z_set => k_is); (case z_tuple => k_is)
#print axioms PySem.Challenge.cw_endnever_k25_whole_papers_never_end_holds
