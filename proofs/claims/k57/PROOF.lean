import PyProof.Rows.All
import Wide.All
import OpenK.AllK
import Wide.FinOn
import HandS.ForMost
import HandS.SortRule
import HandS.IsInst
import HandS.TupAny
import HandS.TupMul
import HandS.Walk
import HandS.More
import HandS.ListItems
import HandS.Wide
import KE.KTupSum
import HandS.Style
import HandS.Deep
import HandS.SortInts
import KE.GoesMore
import KE.KDictKeyed
import KE.KeyNested
import KE.SortData
import KE.KDictPairs
import KE.KEqNest
import KE.DataMinMax
import KE.KDictDisplayH
import KE.KDictCopyH
import HandS.Exc
import HandS.ExcOwn
import HandS.ExcIs
import HandS.WordsExc
import HandS.TryOnly
import KE.KIsAll
import HandS.TupLen
import HandS.TupLe
import HandS.Exc
import HandS.ExcOwn
import HandS.ExcIs
import HandS.WordsExc
import HandS.TryOnly
import KE.KIsAll
import HandS.TupLen
import PySem.Challenge.RW_endnever_k57_trees
set_option Elab.async false
set_option maxRecDepth 100000
set_option maxHeartbeats 4000000
namespace E
open PySem L2
/-! ### small words of our own -/
theorem inr_int {x : V} {ns : List Int} {i : Nat} (h : (ns.map V.int)[i]? = some x) : ∃ z, x = V.int z ∧ ns[i]? = some z := by
  rw [List.getElem?_map] at h
  cases e : ns[i]? with
  | none => rw [e] at h; cases h
  | some z => rw [e] at h; exact ⟨z, (Option.some.inj h).symm, rfl⟩
/-- F stands in H, whatever comes to it -/
theorem sm_new {F H : Hp} {p : Addr} {o : HO} (s : Same F H) (n : H p = Option.none) : Same F (upd H p o) := fun b u e => by
  rw [upd_ne (ne_of_none (s b u e) n)]
  exact s b u e
theorem sm_up {H : Hp} {p : Addr} {o : HO} (n : H p = none) : Same H (upd H p o) := sm_new (Same.refl H) n
theorem cut_63 {ns : List Int} (h : ns.length ≤ 63) : cutV (ns.map V.int) none (some 63) = ns.map V.int := by
  unfold cutV
  have e1 : HT.sIx (ns.map V.int).length 0 none = 0 := rfl
  have e2 : HT.sIx (ns.map V.int).length (ns.map V.int).length (some 63) = (ns.map V.int).length := by
    simp only [HT.sIx, List.length_map]
    rw [if_neg (by decide), show (63 : Int).toNat = 63 from rfl]
    omega
  rw [e1, e2, List.drop_zero, Nat.sub_zero, List.take_length]
theorem ifT {c : Bool} {A B : Prop} (h : c = true) (a : A) : if c = true then A else B := by
  rw [if_pos h]; exact a
theorem ifF {c : Bool} {A B : Prop} (h : c = false) (b : B) : if c = true then A else B := by
  rw [h, if_neg Bool.false_ne_true]; exact b
theorem one_le : 1 ≤ sizeLine := by decide
theorem two_le : 2 ≤ sizeLine := by decide
theorem three_le : 3 ≤ sizeLine := by decide
theorem five_le : 5 ≤ sizeLine := by decide
theorem nil_le : 0 ≤ sizeLine := by decide
theorem lt_size {n : Nat} (h : n ≤ 1000000) : n < sizeLine := Nat.lt_of_le_of_lt h (by decide)
theorem le_size {n : Nat} (h : n ≤ 1000000) : n ≤ sizeLine := Nat.le_of_lt (lt_size h)
theorem pi_listK {X : Cx} {K : PySem.W.Frag} {tg l : Expr} {tl : TE} (e : X.K = K) (h : PE X l tl) : PI X tg l (iList K tl) := by
  subst e; exact pi_list h
theorem crK {X : Cx} {K : PySem.W.Frag} {f : Value} {r : PySem.W.Frag → List V → Hp → VK → Prop} (e : X.K = K) (h : CallR X f (r X.K)) : CallR X f (r K) := by
  subst e; exact h
theorem orK {X : Cx} {K : PySem.W.Frag} {f : Value → Value → Sem Value} {r : PySem.W.Frag → R2} (e : X.K = K) (h : OpR X f (r X.K)) : OpR X f (r K) := by
  subst e; exact h
theorem ixK {X : Cx} {K : PySem.W.Frag} {r : PySem.W.Frag → R2} (e : X.K = K) (h : IxR X (r X.K)) : IxR X (r K) := by
  subst e; exact h
theorem slK {X : Cx} {K : PySem.W.Frag} {r : PySem.W.Frag → V → Option Int → Option Int → Hp → VK → Prop} (e : X.K = K) (h : SlR X (r X.K)) : SlR X (r K) := by
  subst e; exact h
def rLenQ (K : PySem.W.Frag) : List V → Hp → VK → Prop := fun xs H Q => ∃ p ys, xs = [.ref p] ∧ (SqL K H p ys ∨ SqT K H p ys) ∧ Q (.int ys.length) H
def rListQ (K : PySem.W.Frag) : List V → Hp → VK → Prop := fun xs H Q => ∃ p ys, xs = [.ref p] ∧ (SqL K H p ys ∨ SqT K H p ys) ∧ ∀ l, H l = none → Q (.ref l) (upd H l (.lst ys))
theorem ne_of_none' {F H : Hp} {q : Addr} (s : Same F H) (n : H q = none) : F q = none := s.free n
/-- a comprehension without a test: its item comes in -/
theorem yes {σ : St} {H : Hp} {A : Hp → Prop} {B : Hp → Prop} (a : A H) : tYes σ H (fun b H3 => if b = true then A H3 else B H3) := by
  show if true = true then A H else B H
  rw [if_pos rfl]; exact a
theorem call_lenQ {X : Cx} : CallR X (.builtin "len") (rLenQ X.K) := call_len_seq
theorem call_listQ {X : Cx} : CallR X (.type "list") (rListQ X.K) := call_list_of
@[irreducible] def rDictP (K : PySem.W.Frag) : List V → Hp → VK → Prop := fun xs H Q => ∃ (a : Addr) (ps : List Addr) (kvs : List (Key × V)), xs = [.ref a] ∧ SqL K H a (ps.map V.ref) ∧ Paired (fun p kv => SqT K H p [kV kv.1, kv.2]) ps kvs ∧ ∀ p, H p = none → Q (.ref p) (upd H p (.dK (mergeK [] kvs)))
theorem call_dictQ {X : Cx} (hc : X.calm = true) : CallR X (.type "dict") (rDictP X.K) := by
  unfold rDictP
  exact call_dictP hc
@[irreducible] def rSortQ (K : PySem.W.Frag) : List V → Hp → VK → Prop := rSortedPO K
theorem call_sortQ {X : Cx} : CallR X (.builtin "sorted") (rSortQ X.K) := by
  unfold rSortQ
  exact cr_sortedPO
theorem pg_tupK {X : Cx} {K : PySem.W.Frag} {es : List Expr} {k n : Nat} {t : TGs} {pos : Pos} (e : X.K = K) (hc : X.calm = true) (h : PGs X es t) (hn : (assignEach es X.env).length = n := by rfl) (hst : (assignEach es X.env).findIdx? (·.1) = none := by rfl) : PG X (.Tuple es k pos) (gTup K n t) := by
  subst e; exact pg_tup hc h hn hst
/-! ### what stands, what is new: F the frozen part (nobody changes it), H the heap; from F, H to F', H' with changes at mu alone -/
structure Gr (mu : Addr → Prop) (F H F' H' : Hp) : Prop where
  ff : Same F F'
  fh : Same F' H'
  nw : ∀ c o, F' c = some o → F c = some o ∨ H c = none
  fr : ∀ c o, H c = some o → ¬ mu c → H' c = some o
  th : ∀ c, H' c = none → H c = none
/-- nothing but new things -/
abbrev mu0 : Addr → Prop := fun _ => False
/-- the purse alone -/
abbrev muP (p : Addr) : Addr → Prop := fun c => c = p
section
variable {mu : Addr → Prop} {F H F1 H1 F2 H2 : Hp} {q : Addr} {o u : HO}
theorem Gr.refl (s : Same F H) : Gr mu F H F H := ⟨fun _ _ h => h, s, fun _ _ h => .inl h, fun _ _ h _ => h, fun _ h => h⟩
theorem Gr.trans (a : Gr mu F H F1 H1) (b : Gr mu F1 H1 F2 H2) : Gr mu F H F2 H2 where
  ff := fun c o h => b.ff c o (a.ff c o h)
  fh := b.fh
  nw := fun c o h => by
    rcases b.nw c o h with h | h
    · exact a.nw c o h
    · exact .inr (a.th c h)
  fr := fun c o h m => b.fr c o (a.fr c o h m) m
  th := fun c h => a.th c (b.th c h)
/-- a part that changes what is ours, or what mu has -/
theorem Gr.thn {mu' : Addr → Prop} (a : Gr mu F H F1 H1) (b : Gr mu' F1 H1 F2 H2) (k : ∀ c, mu' c → mu c ∨ H c = none) : Gr mu F H F2 H2 where
  ff := fun c o h => b.ff c o (a.ff c o h)
  fh := b.fh
  nw := fun c o h => by
    rcases b.nw c o h with h | h
    · exact a.nw c o h
    · exact .inr (a.th c h)
  fr := fun c o h m => b.fr c o (a.fr c o h m) fun z => (k c z).elim m fun n => by rw [n] at h; cases h
  th := fun c h => a.th c (b.th c h)
theorem Gr.weak {mu' : Addr → Prop} (a : Gr mu F H F1 H1) (m : ∀ c, mu c → mu' c) : Gr mu' F H F1 H1 :=
  ⟨a.ff, a.fh, a.nw, fun c o h n => a.fr c o h fun z => n (m c z), a.th⟩
theorem Gr.of0 (a : Gr mu0 F H F1 H1) : Gr mu F H F1 H1 := a.weak fun _ z => z.elim
/-- a new thing that nobody will change -/
theorem Gr.new (a : Gr mu F H F1 H1) (n : H1 q = none) : Gr mu F H (upd F1 q o) (upd H1 q o) where
  ff := fun c o h => by
    rw [upd_ne (ne_of_none (a.fh c o (a.ff c o h)) n)]
    exact a.ff c o h
  fh := fun c u h => by
    by_cases e : c = q
    · subst e; rw [upd_same] at h ⊢; exact h
    · rw [upd_ne e] at h ⊢; exact a.fh c u h
  nw := fun c u h => by
    by_cases e : c = q
    · subst e; exact .inr (a.th _ n)
    · rw [upd_ne e] at h; exact a.nw c u h
  fr := fun c u h m => by
    rw [upd_ne (ne_of_none (a.fr c u h m) n)]
    exact a.fr c u h m
  th := fun c h => by
    by_cases e : c = q
    · subst e; rw [upd_same] at h; cases h
    · rw [upd_ne e] at h; exact a.th c h
/-- a new thing that may be changed yet -/
theorem Gr.own (a : Gr mu F H F1 H1) (n : H1 q = none) : Gr mu F H F1 (upd H1 q o) where
  ff := a.ff
  fh := fun c u h => by
    rw [upd_ne (ne_of_none (a.fh c u h) n)]
    exact a.fh c u h
  nw := a.nw
  fr := fun c u h m => by
    rw [upd_ne (ne_of_none (a.fr c u h m) n)]
    exact a.fr c u h m
  th := fun c h => by
    by_cases e : c = q
    · subst e; rw [upd_same] at h; cases h
    · rw [upd_ne e] at h; exact a.th c h
/-- a change of what is ours, and not frozen -/
theorem Gr.set (a : Gr mu F H F1 H1) (f : F1 q = none) (m : H q = none ∨ mu q) : Gr mu F H F1 (upd H1 q o) where
  ff := a.ff
  fh := fun c u h => by
    rw [upd_ne (ne_of_none h f)]
    exact a.fh c u h
  nw := a.nw
  fr := fun c u h k => by
    have e : c ≠ q := by
      rintro rfl
      rcases m with m | m
      · rw [m] at h; cases h
      · exact k m
    rw [upd_ne e]
    exact a.fr c u h k
  th := fun c h => by
    by_cases e : c = q
    · subst e; rw [upd_same] at h; cases h
    · rw [upd_ne e] at h; exact a.th c h
/-- what was ours is changed no more -/
theorem Gr.frz (a : Gr mu F H F1 H1) (h : H1 q = some o) (n : H q = none) (f : F1 q = none) : Gr mu F H (upd F1 q o) H1 where
  ff := fun c u e => by
    rw [upd_ne (ne_of_none (a.ff c u e) f)]
    exact a.ff c u e
  fh := fun c u e => by
    by_cases k : c = q
    · subst k; rw [upd_same] at e; cases e; exact h
    · rw [upd_ne k] at e; exact a.fh c u e
  nw := fun c u e => by
    by_cases k : c = q
    · subst k; exact .inr n
    · rw [upd_ne k] at e; exact a.nw c u e
  fr := a.fr
  th := a.th
theorem Gr.free (a : Gr mu F H F1 H1) (n : H1 q = none) : F1 q = none := a.fh.free n
end
/-- an owned thing: new since H, not frozen, it is o now -/
structure Ow (H F H1 : Hp) (q : Addr) (o : HO) : Prop where
  n : H q = none
  f : F q = none
  h : H1 q = some o
section
variable {mu mu' : Addr → Prop} {H0 F H F1 H1 : Hp} {q r : Addr} {o u : HO}
theorem Ow.call (w : Ow H0 F H q o) (a : Gr mu F H F1 H1) (m : ¬ mu q) : Ow H0 F1 H1 q o :=
  ⟨w.n, (by
    cases e : F1 q with
    | none => rfl
    | some z =>
      rcases a.nw q z e with k | k
      · rw [w.f] at k; cases k
      · rw [w.h] at k; cases k), a.fr q o w.h m⟩
theorem Ow.ne (w : Ow H0 F H q o) (n : H r = none) : q ≠ r := ne_of_none w.h n
theorem Ow.new (w : Ow H0 F H q o) (n : H r = none) : Ow H0 (upd F r u) (upd H r u) q o :=
  ⟨w.n, by rw [upd_ne (w.ne n)]; exact w.f, by rw [upd_ne (w.ne n)]; exact w.h⟩
theorem Ow.own (w : Ow H0 F H q o) (n : H r = none) : Ow H0 F (upd H r u) q o :=
  ⟨w.n, w.f, by rw [upd_ne (w.ne n)]; exact w.h⟩
theorem Ow.mk1 (a : Gr mu H0' H0 F H) (n : H q = none) : Ow H0 F (upd H q o) q o := ⟨a.th q n, a.free n, upd_same⟩
theorem Ow.set (w : Ow H0 F H q o) : Ow H0 F (upd H q u) q u := ⟨w.n, w.f, upd_same⟩
theorem Ow.other (w : Ow H0 F H q o) (e : q ≠ r) : Ow H0 F (upd H r u) q o := ⟨w.n, w.f, by rw [upd_ne e]; exact w.h⟩
end
/-! ### what stands for a datum -/
def All2 {α β : Type} (r : α → β → Prop) (xs : List α) (ys : List β) : Prop := xs.length = ys.length ∧ ∀ (i : Nat) (x : α) (y : β), xs[i]? = some x → ys[i]? = some y → r x y
section
variable {α β : Type} {r s : α → β → Prop} {xs xs' : List α} {ys ys' : List β}
theorem All2.nil : All2 r [] [] := ⟨rfl, fun i x y h => by simp at h⟩
theorem All2.get (a : All2 r xs ys) {i : Nat} {y : β} (h : ys[i]? = some y) : ∃ x, xs[i]? = some x ∧ r x y := by
  have l := (List.getElem?_eq_some_iff.mp h).1
  have l' : i < xs.length := by rw [a.1]; exact l
  exact ⟨xs[i], List.getElem?_eq_getElem l', a.2 i _ y (List.getElem?_eq_getElem l') h⟩
theorem All2.get' (a : All2 r xs ys) {i : Nat} {x : α} (h : xs[i]? = some x) : ∃ y, ys[i]? = some y ∧ r x y := by
  have l := (List.getElem?_eq_some_iff.mp h).1
  have l' : i < ys.length := by rw [← a.1]; exact l
  exact ⟨ys[i], List.getElem?_eq_getElem l', a.2 i x _ h (List.getElem?_eq_getElem l')⟩
theorem All2.imp (a : All2 r xs ys) (f : ∀ x y, r x y → s x y) : All2 s xs ys := ⟨a.1, fun i x y h k => f x y (a.2 i x y h k)⟩
theorem All2.app (a : All2 r xs ys) (b : All2 r xs' ys') : All2 r (xs ++ xs') (ys ++ ys') := by
  refine ⟨by rw [List.length_append, List.length_append, a.1, b.1], fun i x y h k => ?_⟩
  by_cases l : i < xs.length
  · rw [List.getElem?_append_left l] at h
    rw [List.getElem?_append_left (by rw [← a.1]; exact l)] at k
    exact a.2 i x y h k
  · rw [List.getElem?_append_right (by omega)] at h
    rw [List.getElem?_append_right (by rw [← a.1]; omega), ← a.1] at k
    exact b.2 _ x y h k
theorem All2.one {x : α} {y : β} (h : r x y) : All2 r [x] [y] := ⟨rfl, fun i a b p q => by
  cases i with
  | zero => simp at p q; subst p; subst q; exact h
  | succ n => simp at p⟩
theorem All2.cons {x : α} {y : β} (h : r x y) (a : All2 r xs ys) : All2 r (x :: xs) (y :: ys) := (All2.one h).app a
theorem All2.set (a : All2 r xs ys) {x : α} {y : β} (h : r x y) (j : Nat) : All2 r (xs.set j x) (ys.set j y) := by
  refine ⟨by rw [List.length_set, List.length_set]; exact a.1, fun i u v p q => ?_⟩
  by_cases e : j = i
  · subst e
    rw [List.getElem?_set_self'] at p q
    cases e1 : xs[j]? with
    | none => rw [e1] at p; cases p
    | some z =>
      cases e2 : ys[j]? with
      | none => rw [e2] at q; cases q
      | some z2 =>
        rw [e1] at p; rw [e2] at q
        cases p; cases q
        exact h
  · rw [List.getElem?_set_ne e] at p q
    exact a.2 i u v p q
theorem All2.take (a : All2 r xs ys) (n : Nat) : All2 r (xs.take n) (ys.take n) := by
  refine ⟨by rw [List.length_take, List.length_take, a.1], fun i u v p q => ?_⟩
  rw [List.getElem?_take] at p q
  split at p
  · rw [if_pos (by assumption)] at q; exact a.2 i u v p q
  · cases p
theorem All2.drop (a : All2 r xs ys) (n : Nat) : All2 r (xs.drop n) (ys.drop n) := by
  refine ⟨by rw [List.length_drop, List.length_drop, a.1], fun i u v p q => ?_⟩
  rw [List.getElem?_drop] at p q
  exact a.2 _ u v p q
end
class Dat (α : Type) where
  rep : Hp → V → α → Prop
  mono : ∀ {H H' : Hp} {v : V} {d : α}, Same H H' → rep H v d → rep H' v d
  py : α → PyData
  dp : ∀ {K : PySem.W.Frag} {H : Hp} {v : V} {d : α}, rep H v d → Dp K H v (py d)
  can : ∀ d, (py d).canLay0 = true
  dep : Nat
  depth : ∀ d, (py d).depth ≤ dep
  eqv : ∀ a b, PyData.eqv (py a) (py b) = true ↔ a = b
section
variable {α β γ : Type}
/-- v stands for d in H -/
abbrev Is [Dat α] (H : Hp) (v : V) (d : α) : Prop := Dat.rep H v d
theorem Is.up [Dat α] {H H' : Hp} {v : V} {d : α} (h : Is H v d) (s : Same H H') : Is H' v d := Dat.mono s h
abbrev IsAll [Dat α] (H : Hp) (xs : List V) (ds : List α) : Prop := All2 (fun v d => Is H v d) xs ds
theorem IsAll.up [Dat α] {H H' : Hp} {xs : List V} {ds : List α} (h : IsAll H xs ds) (s : Same H H') : IsAll H' xs ds := h.imp fun _ _ z => Is.up z s
theorem dp_all [Dat α] {K : PySem.W.Frag} {H : Hp} : ∀ {xs : List V} {ds : List α}, IsAll H xs ds → DpAll K H xs (ds.map Dat.py)
  | [], [], _ => .nil
  | [], d :: ds, h => by have := h.1; simp at this
  | x :: xs, [], h => by have := h.1; simp at this
  | x :: xs, d :: ds, h => .cons (Dat.dp (h.2 0 x d rfl rfl)) (dp_all ⟨by have := h.1; simpa using this, fun i a b p q => h.2 (i + 1) a b (by simpa using p) (by simpa using q)⟩)
theorem can_all [Dat α] : ∀ ds : List α, PyData.canLayAll0 (ds.map Dat.py) = true
  | [] => rfl
  | d :: ds => by
    show (PyData.canLay0 (Dat.py d) && PyData.canLayAll0 (ds.map Dat.py)) = true
    rw [Dat.can, can_all ds]; rfl
theorem depth_all [Dat α] : ∀ ds : List α, PyData.depthAll (ds.map Dat.py) ≤ Dat.dep α
  | [] => Nat.zero_le _
  | d :: ds => by
    show max (PyData.depth (Dat.py d)) (PyData.depthAll (ds.map Dat.py)) ≤ _
    exact Nat.max_le.mpr ⟨Dat.depth d, depth_all ds⟩
theorem eqv_all [Dat α] : ∀ a b : List α, PyData.eqvAll (a.map Dat.py) (b.map Dat.py) = true ↔ a = b
  | [], [] => by simp [PyData.eqvAll]
  | [], _ :: _ => by simp [PyData.eqvAll]
  | _ :: _, [] => by simp [PyData.eqvAll]
  | x :: xs, y :: ys => by
    rw [List.map_cons, List.map_cons, PyData.eqvAll, Bool.and_eq_true, Dat.eqv, eqv_all xs ys, List.cons.injEq]
instance : Dat Int where
  rep := fun _ v i => v = .int i
  mono := fun _ h => h
  py := .int
  dp := fun h => h ▸ .int _
  can := fun _ => rfl
  dep := 0
  depth := fun _ => Nat.le_refl _
  eqv := fun a b => by simp [PyData.eqv]
instance : Dat Bool where
  rep := fun _ v i => v = .bl i
  mono := fun _ h => h
  py := .bool
  dp := fun h => h ▸ .bl _
  can := fun _ => rfl
  dep := 0
  depth := fun _ => Nat.le_refl _
  eqv := fun a b => by simp [PyData.eqv]
/-- a list of data -/
instance [Dat α] : Dat (List α) where
  rep := fun H v l => ∃ a xs, v = .ref a ∧ H a = some (.lst xs) ∧ IsAll H xs l
  mono := fun s h => by
    obtain ⟨a, xs, e, h, i⟩ := h
    exact ⟨a, xs, e, s _ _ h, IsAll.up i s⟩
  py := fun l => .list (l.map Dat.py)
  dp := fun h => by
    obtain ⟨a, xs, rfl, h, i⟩ := h
    exact .lst (SqL.of h) (dp_all i)
  can := fun d => can_all d
  dep := Dat.dep α + 1
  depth := fun d => Nat.succ_le_succ (depth_all d)
  eqv := fun a b => by rw [PyData.eqv]; exact eqv_all a b
/-- a tuple of data of one kind -/
structure Tup (α : Type) where
  l : List α
  deriving DecidableEq
instance [Dat α] : Dat (Tup α) where
  rep := fun H v l => ∃ a xs, v = .ref a ∧ H a = some (.tup xs) ∧ IsAll H xs l.l
  mono := fun s h => by
    obtain ⟨a, xs, e, h, i⟩ := h
    exact ⟨a, xs, e, s _ _ h, IsAll.up i s⟩
  py := fun l => .tuple (l.l.map Dat.py)
  dp := fun h => by
    obtain ⟨a, xs, rfl, h, i⟩ := h
    exact .tup (SqT.of h) (dp_all i)
  can := fun d => can_all d.l
  dep := Dat.dep α + 1
  depth := fun d => Nat.succ_le_succ (depth_all d.l)
  eqv := fun a b => by
    rw [PyData.eqv, eqv_all]
    obtain ⟨a⟩ := a; obtain ⟨b⟩ := b
    simp
/-- a pair; a triple -/
structure T2 (α β : Type) where
  a : α
  b : β
  deriving DecidableEq
structure T3 (α β γ : Type) where
  a : α
  b : β
  c : γ
  deriving DecidableEq
instance [Dat α] [Dat β] : Dat (T2 α β) where
  rep := fun H v d => ∃ p x y, v = .ref p ∧ H p = some (.tup [x, y]) ∧ Is H x d.a ∧ Is H y d.b
  mono := fun s h => by
    obtain ⟨p, x, y, e, h, i, j⟩ := h
    exact ⟨p, x, y, e, s _ _ h, Is.up i s, Is.up j s⟩
  py := fun d => .tuple [Dat.py d.a, Dat.py d.b]
  dp := fun h => by
    obtain ⟨p, x, y, rfl, h, i, j⟩ := h
    exact .tup (SqT.of h) (.cons (Dat.dp i) (.cons (Dat.dp j) .nil))
  can := fun d => by
    show (PyData.canLay0 (Dat.py d.a) && (PyData.canLay0 (Dat.py d.b) && true)) = true
    rw [Dat.can, Dat.can]; rfl
  dep := max (Dat.dep α) (Dat.dep β) + 1
  depth := fun d => by
    have h1 := Dat.depth d.a
    have h2 := Dat.depth d.b
    show max (PyData.depth (Dat.py d.a)) (max (PyData.depth (Dat.py d.b)) 0) + 1 ≤ _
    omega
  eqv := fun a b => by
    obtain ⟨a, a'⟩ := a; obtain ⟨b, b'⟩ := b
    simp [PyData.eqv, PyData.eqvAll, Dat.eqv]
instance [Dat α] [Dat β] [Dat γ] : Dat (T3 α β γ) where
  rep := fun H v d => ∃ p x y z, v = .ref p ∧ H p = some (.tup [x, y, z]) ∧ Is H x d.a ∧ Is H y d.b ∧ Is H z d.c
  mono := fun s h => by
    obtain ⟨p, x, y, z, e, h, i, j, k⟩ := h
    exact ⟨p, x, y, z, e, s _ _ h, Is.up i s, Is.up j s, Is.up k s⟩
  py := fun d => .tuple [Dat.py d.a, Dat.py d.b, Dat.py d.c]
  dp := fun h => by
    obtain ⟨p, x, y, z, rfl, h, i, j, k⟩ := h
    exact .tup (SqT.of h) (.cons (Dat.dp i) (.cons (Dat.dp j) (.cons (Dat.dp k) .nil)))
  can := fun d => by
    show (PyData.canLay0 (Dat.py d.a) && (PyData.canLay0 (Dat.py d.b) && (PyData.canLay0 (Dat.py d.c) && true))) = true
    rw [Dat.can, Dat.can, Dat.can]; rfl
  dep := max (Dat.dep α) (max (Dat.dep β) (Dat.dep γ)) + 1
  depth := fun d => by
    have h1 := Dat.depth d.a
    have h2 := Dat.depth d.b
    have h3 := Dat.depth d.c
    show max (PyData.depth (Dat.py d.a)) (max (PyData.depth (Dat.py d.b)) (max (PyData.depth (Dat.py d.c)) 0)) + 1 ≤ _
    omega
  eqv := fun a b => by
    obtain ⟨a, a', a''⟩ := a; obtain ⟨b, b', b''⟩ := b
    simp [PyData.eqv, PyData.eqvAll, Dat.eqv]
/-- None, or a datum that is a tuple or a list -/
class Big (α : Type) [Dat α] : Prop where
  big : ∀ d : α, (∃ l, Dat.py d = .tuple l) ∨ ∃ l, Dat.py d = .list l
instance [Dat α] : Big (List α) := ⟨fun d => .inr ⟨_, rfl⟩⟩
instance [Dat α] : Big (Tup α) := ⟨fun d => .inl ⟨_, rfl⟩⟩
instance [Dat α] [Dat β] : Big (T2 α β) := ⟨fun d => .inl ⟨_, rfl⟩⟩
instance [Dat α] [Dat β] [Dat γ] : Big (T3 α β γ) := ⟨fun d => .inl ⟨_, rfl⟩⟩
instance [Dat α] [Big α] : Dat (Option α) where
  rep := fun H v d => match d with
    | none => v = .non
    | some d => Is H v d
  mono := fun {H H' v d} s h => by
    cases d with
    | none => exact h
    | some d => exact Is.up (show Is H v d from h) s
  py := fun d => match d with
    | none => .none
    | some d => Dat.py d
  dp := fun {K H v d} h => by
    cases d with
    | none => cases h; exact .non
    | some d => exact Dat.dp (show Is H v d from h)
  can := fun d => by
    cases d with
    | none => rfl
    | some d => exact Dat.can d
  dep := Dat.dep α
  depth := fun d => by
    cases d with
    | none => exact Nat.zero_le _
    | some d => exact Dat.depth d
  eqv := fun a b => by
    cases a with
    | none =>
      cases b with
      | none => exact ⟨fun _ => rfl, fun _ => rfl⟩
      | some b =>
        refine ⟨fun h => ?_, fun h => nomatch h⟩
        have h : PyData.eqv .none (Dat.py b) = true := h
        rcases Big.big b with ⟨l, e⟩ | ⟨l, e⟩ <;> (rw [e] at h; simp only [PyData.eqv] at h; cases h)
    | some a =>
      cases b with
      | none =>
        refine ⟨fun h => ?_, fun h => nomatch h⟩
        have h : PyData.eqv (Dat.py a) .none = true := h
        rcases Big.big a with ⟨l, e⟩ | ⟨l, e⟩ <;> (rw [e] at h; simp only [PyData.eqv] at h; cases h)
      | some b =>
        show PyData.eqv (Dat.py a) (Dat.py b) = true ↔ _
        rw [Dat.eqv, Option.some.injEq]
end
/-- == and != of data -/
theorem eq_dat0 {α : Type} [Dat α] [DecidableEq α] {a b : α} (hd : Dat.dep α ≤ 64) : SeqAt.shaped (Dat.py a) = true ∧ SeqAt.shaped (Dat.py b) = true ∧ PyData.eqv (Dat.py a) (Dat.py b) = decide (a = b) := by
  refine ⟨?_, ?_, ?_⟩
  · show (PyData.canLay0 _ && decide _) = true
    rw [Dat.can, decide_eq_true (Nat.le_trans (Dat.depth a) hd)]; rfl
  · show (PyData.canLay0 _ && decide _) = true
    rw [Dat.can, decide_eq_true (Nat.le_trans (Dat.depth b) hd)]; rfl
  · rw [Bool.eq_iff_iff, Dat.eqv, decide_eq_true_iff]
theorem eq_dat {α : Type} [Dat α] [DecidableEq α] {K : PySem.W.Frag} {H : Hp} {x y : V} {a b : α} {Q : VK} (ha : Is H x a) (hb : Is H y b) (q : Q (.bl (decide (a = b))) H) (hd : Dat.dep α ≤ 64 := by decide) : rEqD K x y H Q := by
  obtain ⟨h1, h2, h3⟩ := eq_dat0 (a := a) (b := b) hd
  exact ⟨Dat.py a, Dat.py b, Dat.dp ha, Dat.dp hb, h1, h2, by rw [h3]; exact q⟩
theorem ne_dat {α : Type} [Dat α] [DecidableEq α] {K : PySem.W.Frag} {H : Hp} {x y : V} {a b : α} {Q : VK} (ha : Is H x a) (hb : Is H y b) (q : Q (.bl (!decide (a = b))) H) (hd : Dat.dep α ≤ 64 := by decide) : rNeD K x y H Q := by
  obtain ⟨h1, h2, h3⟩ := eq_dat0 (a := a) (b := b) hd
  exact ⟨Dat.py a, Dat.py b, Dat.dp ha, Dat.dp hb, h1, h2, by rw [h3]; exact q⟩
/-! ### machines -/
/-- an entry -/
inductive Ent where
  | emp
  | go (put way row : Int)
  deriving DecidableEq
def entO : Ent → HO
  | .emp => .tup []
  | .go p w r => .tup [.int p, .int w, .int r]
def entP : Ent → PyData
  | .emp => .tuple []
  | .go p w r => .tuple [.int p, .int w, .int r]
instance : Dat Ent where
  rep := fun H v e => ∃ a, v = .ref a ∧ H a = some (entO e)
  mono := fun s h => by obtain ⟨a, e, h⟩ := h; exact ⟨a, e, s _ _ h⟩
  py := entP
  dp := fun {K H v d} h => by
    obtain ⟨a, rfl, h⟩ := h
    cases d with
    | emp => exact .tup (SqT.of h) .nil
    | go p w r => exact .tup (SqT.of h) (.cons (.int _) (.cons (.int _) (.cons (.int _) .nil)))
  can := fun d => by cases d <;> rfl
  dep := 1
  depth := fun d => by cases d <;> simp [entP, PyData.depth, PyData.depthAll]
  eqv := fun a b => by cases a <;> cases b <;> simp [entP, PyData.eqv, PyData.eqvAll]
instance : Big Ent := ⟨fun d => by cases d <;> exact .inl ⟨_, rfl⟩⟩
abbrev Mach := List (List Ent)
/-! ### pairs of ints: a dict's items, sorted ones -/
abbrev PI := T2 Int Int
def dI (l : List PI) : List (Key × V) := l.map fun p => (Sum.inl p.a, V.int p.b)
def look (l : List PI) (x : Int) : Option Int := (l.find? fun p => decide (p.a = x)).map (·.b)
def put (l : List PI) (x v : Int) : List PI := if (l.any fun p => decide (p.a = x)) = true then l.map (fun p => if p.a = x then ⟨p.a, v⟩ else p) else l ++ [⟨x, v⟩]
def merge (l m : List PI) : List PI := m.foldl (fun acc p => put acc p.a p.b) l
theorem key_inl (a b : Int) : ((Sum.inl a : Key) = Sum.inl b) = (a = b) := propext ⟨Sum.inl.inj, fun h => by rw [h]⟩
theorem dI_val (x : Int) : ∀ l : List PI, valV (dI l) (Sum.inl x) = (look l x).map V.int
  | [] => rfl
  | p :: l => by
    have ih := dI_val x l
    show valV ((Sum.inl p.a, V.int p.b) :: dI l) (Sum.inl x) = _
    by_cases e : p.a = x
    · rw [valV_pos (by rw [key_inl]; exact e)]
      simp [look, e]
    · rw [valV_neg (by rw [key_inl]; exact e), ih]
      simp [look, e]
theorem dI_put (l : List PI) (x v : Int) : putK (dI l) (Sum.inl x) (.int v) = dI (put l x v) := by
  have e : ((dI l).any fun kv => decide (kv.1 = Sum.inl x)) = (l.any fun p => decide (p.a = x)) := by
    unfold dI
    rw [List.any_map]
    congr 1
    funext p
    simp only [Function.comp, key_inl]
  unfold putK put
  rw [e]
  by_cases a : (l.any fun p => decide (p.a = x)) = true
  · rw [if_pos a, if_pos a]
    unfold dI
    rw [List.map_map, List.map_map]
    congr 1
    funext p
    simp only [Function.comp, key_inl]
    by_cases h : p.a = x
    · rw [if_pos h, if_pos h]
    · rw [if_neg h, if_neg h]
  · rw [if_neg a, if_neg a]
    unfold dI
    rw [List.map_append]
    rfl
theorem dI_merge (m : List PI) : ∀ l : List PI, mergeK (dI l) (dI m) = dI (merge l m) := by
  induction m with
  | nil => intro l; rfl
  | cons p m ih =>
    intro l
    show mergeK (putK (dI l) (Sum.inl p.a) (.int p.b)) (dI m) = dI (merge (put l p.a p.b) m)
    rw [dI_put]
    exact ih _
theorem look_nil (x : Int) : look [] x = none := rfl
theorem look_cons (p : PI) (l : List PI) (x : Int) : look (p :: l) x = if p.a = x then some p.b else look l x := by
  unfold look
  rw [List.find?_cons]
  by_cases e : p.a = x
  · simp [e]
  · simp [e]
theorem look_any (x : Int) : ∀ l : List PI, (l.any fun p => decide (p.a = x)) = (look l x).isSome
  | [] => rfl
  | p :: l => by
    rw [List.any_cons, look_any x l, look_cons]
    by_cases e : p.a = x
    · simp [e]
    · simp [e]
theorem look_map (x y v : Int) : ∀ l : List PI, look (l.map fun p => if p.a = x then ⟨p.a, v⟩ else p) y = (look l y).map fun z => if y = x then v else z
  | [] => rfl
  | p :: l => by
    rw [List.map_cons, look_cons, look_cons, look_map x y v l]
    by_cases e : p.a = x
    · rw [if_pos e]
      by_cases f : p.a = y
      · rw [if_pos f, if_pos f]
        rw [← f, Option.map_some, if_pos e]
      · rw [if_neg f, if_neg f]
    · rw [if_neg e]
      by_cases f : p.a = y
      · rw [if_pos f, if_pos f, Option.map_some, if_neg (by rw [← f]; exact e)]
      · rw [if_neg f, if_neg f]
theorem look_app (l m : List PI) (x : Int) : look (l ++ m) x = (look l x).or (look m x) := by
  induction l with
  | nil => rfl
  | cons p l ih =>
    rw [List.cons_append, look_cons, look_cons, ih]
    by_cases e : p.a = x
    · rw [if_pos e, if_pos e]; rfl
    · rw [if_neg e, if_neg e]
theorem look_put (l : List PI) (x v y : Int) : look (put l x v) y = if y = x then some v else look l y := by
  unfold put
  by_cases a : (l.any fun p => decide (p.a = x)) = true
  · rw [if_pos a, look_map]
    by_cases e : y = x
    · rw [if_pos e, e]
      rw [look_any] at a
      obtain ⟨z, hz⟩ := Option.isSome_iff_exists.mp a
      rw [hz, Option.map_some, if_pos rfl]
    · rw [if_neg e]
      cases look l y with
      | none => rfl
      | some z => rw [Option.map_some, if_neg e]
  · rw [if_neg a, look_app]
    rw [look_any] at a
    by_cases e : y = x
    · rw [if_pos e, e]
      cases h : look l x with
      | none => rw [look_cons, if_pos rfl]; rfl
      | some z => rw [h] at a; exact absurd rfl a
    · rw [if_neg e, look_cons, if_neg (fun z => e z.symm), look_nil]
      cases look l y <;> rfl
/-- no place twice -/
def Nd (l : List PI) : Prop := (l.map (·.a)).Nodup
theorem look_none {l : List PI} {x : Int} : look l x = none ↔ x ∉ l.map (·.a) := by
  induction l with
  | nil => simp [look_nil]
  | cons p l ih =>
    rw [look_cons, List.map_cons, List.mem_cons]
    by_cases e : p.a = x
    · rw [if_pos e]; simp [e]
    · rw [if_neg e, ih]
      constructor
      · intro h z
        rcases z with z | z
        · exact e z.symm
        · exact h z
      · intro h z
        exact h (.inr z)
theorem look_mem {l : List PI} (h : Nd l) {p : PI} (m : p ∈ l) : look l p.a = some p.b := by
  induction l with
  | nil => cases m
  | cons q l ih =>
    have h' := List.nodup_cons.mp h
    rw [look_cons]
    rcases List.mem_cons.mp m with rfl | m
    · rw [if_pos rfl]
    · rw [if_neg (fun e => h'.1 (by show q.a ∈ _; rw [e]; exact List.mem_map.mpr ⟨p, m, rfl⟩))]
      exact ih h'.2 m
theorem mem_look {l : List PI} {x v : Int} (h : look l x = some v) : (⟨x, v⟩ : PI) ∈ l := by
  induction l with
  | nil => cases h
  | cons q l ih =>
    rw [look_cons] at h
    by_cases e : q.a = x
    · rw [if_pos e] at h
      cases h
      subst e
      exact List.mem_cons_self
    · rw [if_neg e] at h
      exact List.mem_cons_of_mem _ (ih h)
theorem nd_put {l : List PI} (h : Nd l) (x v : Int) : Nd (put l x v) := by
  unfold put
  by_cases a : (l.any fun p => decide (p.a = x)) = true
  · rw [if_pos a]
    unfold Nd
    rw [List.map_map]
    have e : ((fun p : PI => p.a) ∘ fun p : PI => if p.a = x then (⟨p.a, v⟩ : PI) else p) = fun p : PI => p.a := by
      funext p
      simp only [Function.comp]
      split <;> rfl
    rw [e]; exact h
  · rw [if_neg a]
    unfold Nd
    rw [List.map_append]
    refine nd_snoc h ?_
    rw [look_any] at a
    refine look_none.mp ?_
    cases q : look l x with
    | none => rfl
    | some z => rw [q] at a; exact absurd rfl a
theorem put_new {l : List PI} {x : Int} (v : Int) (h : look l x = none) : put l x v = l ++ [⟨x, v⟩] := by
  unfold put
  rw [look_any, h]
  rfl
theorem merge_nd {m : List PI} : ∀ {l : List PI}, Nd (l ++ m) → merge l m = l ++ m := by
  induction m with
  | nil => intro l _; simp [merge]
  | cons p m ih =>
    intro l h
    have e : l ++ p :: m = (l ++ [p]) ++ m := by simp
    have hn : look l p.a = none := by
      refine look_none.mpr fun z => ?_
      unfold Nd at h
      rw [List.map_append] at h
      exact (List.nodup_append.mp h).2.2 _ z _ (by rw [List.map_cons]; exact List.mem_cons_self) rfl
    show merge (put l p.a p.b) m = _
    rw [put_new _ hn, e]
    exact ih (by rw [← e]; exact h)
theorem nd_nil : Nd [] := List.nodup_nil
theorem put_len (l : List PI) (x v : Int) : (put l x v).length ≤ l.length + 1 := by
  unfold put
  split
  · rw [List.length_map]; omega
  · rw [List.length_append]; exact Nat.le_refl _
/-- Python's order of pairs -/
def leP (p q : PI) : Bool := decide (p.a < q.a) || (decide (p.a = q.a) && decide (p.b ≤ q.b))
theorem leP_iff {p q : PI} : leP p q = true ↔ p.a < q.a ∨ (p.a = q.a ∧ p.b ≤ q.b) := by simp [leP]
def ins (p : PI) : List PI → List PI
  | [] => [p]
  | q :: l => if leP p q = true then p :: q :: l else q :: ins p l
def srt (l : List PI) : List PI := l.foldr ins []
theorem ins_perm (p : PI) : ∀ l : List PI, (ins p l).Perm (p :: l)
  | [] => List.Perm.refl _
  | q :: l => by
    unfold ins
    split
    · exact List.Perm.refl _
    · exact (List.Perm.cons q (ins_perm p l)).trans (List.Perm.swap p q l)
theorem srt_perm : ∀ l : List PI, (srt l).Perm l
  | [] => List.Perm.refl _
  | p :: l => (ins_perm p (srt l)).trans ((srt_perm l).cons p)
abbrev LeP (p q : PI) : Prop := leP p q = true
theorem leP_trans {p q r : PI} (h1 : LeP p q) (h2 : LeP q r) : LeP p r := by
  have a := leP_iff.mp h1
  have b := leP_iff.mp h2
  exact leP_iff.mpr (by omega)
theorem leP_total (p q : PI) : LeP p q ∨ LeP q p := by
  show leP p q = true ∨ leP q p = true
  rw [leP_iff, leP_iff]
  omega
theorem ins_srt (p : PI) : ∀ {l : List PI}, l.Pairwise LeP → (ins p l).Pairwise LeP
  | [], _ => List.pairwise_singleton _ _
  | q :: l, h => by
    have h' := List.pairwise_cons.mp h
    unfold ins
    split
    · rename_i e
      refine List.pairwise_cons.mpr ⟨fun x m => ?_, h⟩
      rcases List.mem_cons.mp m with rfl | m
      · exact e
      · exact leP_trans e (h'.1 x m)
    · rename_i e
      refine List.pairwise_cons.mpr ⟨fun x m => ?_, ins_srt p h'.2⟩
      rcases List.mem_cons.mp ((ins_perm p l).mem_iff.mp m) with rfl | m
      · rcases leP_total q x with z | z
        · exact z
        · exact absurd z e
      · exact h'.1 x m
theorem srt_srt : ∀ l : List PI, (srt l).Pairwise LeP
  | [] => List.Pairwise.nil
  | p :: l => ins_srt p (srt_srt l)
theorem leP_anti {p q : PI} (h1 : LeP p q) (h2 : LeP q p) : p = q := by
  have a := leP_iff.mp h1
  have b := leP_iff.mp h2
  obtain ⟨x, y⟩ := p
  obtain ⟨x', y'⟩ := q
  have e1 : x = x' := by show x = x'; simp only at a b; omega
  have e2 : y = y' := by simp only at a b; omega
  rw [e1, e2]
/-- there is one sorted list of them -/
theorem srt_uniq : ∀ {l m : List PI}, l.Pairwise LeP → m.Pairwise LeP → l.Perm m → l = m
  | [], m, _, _, h => (List.Perm.eq_nil h.symm).symm
  | x :: l, [], _, _, h => absurd h.length_eq (by simp)
  | x :: l, y :: m, hl, hm, h => by
    have l' := List.pairwise_cons.mp hl
    have m' := List.pairwise_cons.mp hm
    have h1 : LeP y x := by
      rcases List.mem_cons.mp (h.mem_iff.mp (List.mem_cons_self (a := x) (l := l))) with e | z
      · rw [e]; rcases leP_total y y with z | z <;> exact z
      · exact m'.1 x z
    have h2 : LeP x y := by
      rcases List.mem_cons.mp (h.mem_iff.mpr (List.mem_cons_self (a := y) (l := m))) with e | z
      · rw [e]; rcases leP_total x x with z | z <;> exact z
      · exact l'.1 y z
    have e := leP_anti h2 h1
    subst e
    rw [srt_uniq l'.2 m'.2 h.cons_inv]
theorem srt_of {l m : List PI} (h : m.Pairwise LeP) (p : m.Perm l) : m = srt l := srt_uniq h (srt_srt l) (p.trans (srt_perm l).symm)
/-- what a value says as a pair, read off the heap -/
def pOf (H : Hp) : V → Int × Int
  | .ref t => match H t with
    | some (.tup [.int i, .int j]) => (i, j)
    | _ => (0, 0)
  | _ => (0, 0)
theorem pOf_is {H : Hp} {v : V} {d : PI} (h : Is H v d) : ∃ t, v = .ref t ∧ H t = some (.tup [.int (pOf H v).1, .int (pOf H v).2]) ∧ d = ⟨(pOf H v).1, (pOf H v).2⟩ := by
  obtain ⟨t, x, y, rfl, h1, h2, h3⟩ := h
  have h2 : x = .int d.a := h2
  have h3 : y = .int d.b := h3
  subst h2
  subst h3
  have e : pOf H (.ref t) = (d.a, d.b) := by simp only [pOf, h1]
  exact ⟨t, rfl, by rw [e]; exact h1, by rw [e]⟩
theorem all_of {H : Hp} : ∀ {xs : List V} {l : List PI}, IsAll H xs l → l = xs.map fun v => (⟨(pOf H v).1, (pOf H v).2⟩ : PI) := fun {xs l} h => by
  refine List.ext_getElem? fun i => ?_
  rw [List.getElem?_map]
  cases e : xs[i]? with
  | none =>
    have := List.getElem?_eq_none_iff.mp e
    exact List.getElem?_eq_none_iff.mpr (by rw [← h.1]; exact this)
  | some x =>
    obtain ⟨d, hd, hx⟩ := h.get' e
    obtain ⟨t, _, _, q⟩ := pOf_is hx
    rw [hd, q]
    rfl
/-- sorted of a list of pairs -/
theorem sort_pairs {K : PySem.W.Frag} {F H : Hp} {a : Addr} {xs : List V} {l : List PI} {Q : VK} (sF : Same F H) (hx : IsAll F xs l) (ha : SqL K H a xs) (q : ∀ ys p, H p = none → IsAll F ys (srt l) → Q (.ref p) (upd H p (.lst ys))) : rSortQ K [.ref a] H Q := by
  unfold rSortQ
  refine ⟨a, xs, pOf F, rfl, ha, fun x m => ?_, fun ys p hs hb np => q ys p np ?_⟩
  · obtain ⟨i, hi⟩ := List.getElem?_of_mem m
    obtain ⟨d, _, hd⟩ := hx.get' hi
    obtain ⟨t, e, h, _⟩ := pOf_is hd
    exact ⟨t, e, sF _ _ h⟩
  · have el := all_of hx
    have hys : IsAll F ys (ys.map fun v => (⟨(pOf F v).1, (pOf F v).2⟩ : PI)) := by
      refine ⟨by rw [List.length_map], fun i x y h1 h2 => ?_⟩
      rw [List.getElem?_map, h1] at h2
      cases h2
      have m : x ∈ xs := hb.perm.mem_iff.mp (List.mem_of_getElem? h1)
      obtain ⟨j, hj⟩ := List.getElem?_of_mem m
      obtain ⟨d, _, hd⟩ := hx.get' hj
      obtain ⟨t, e, h, e2⟩ := pOf_is hd
      exact ⟨t, _, _, e, h, rfl, rfl⟩
    have es : (ys.map fun v => (⟨(pOf F v).1, (pOf F v).2⟩ : PI)) = srt l := by
      refine srt_of ?_ ?_
      · refine List.pairwise_map.mpr (List.Pairwise.imp (fun {x y} h => ?_) hs)
        have h := SrtO.lexB_no.mp h
        exact leP_iff.mpr (by simp only; omega)
      · rw [el]
        exact hb.perm.map _
    rw [es] at hys
    exact hys
theorem pairs_of {K : PySem.W.Frag} {H : Hp} : ∀ {xs : List V} {l : List PI}, IsAll H xs l → ∃ ps : List Addr, xs = ps.map V.ref ∧ Paired (fun p kv => SqT K H p [kV kv.1, kv.2]) ps (dI l)
  | [], [], _ => ⟨[], rfl, .nil⟩
  | [], d :: l, h => by have := h.1; simp at this
  | x :: xs, [], h => by have := h.1; simp at this
  | x :: xs, d :: l, h => by
    obtain ⟨t, x1, x2, e, h1, h2, h3⟩ := h.2 0 x d rfl rfl
    have h2 : x1 = .int d.a := h2
    have h3 : x2 = .int d.b := h3
    subst h2
    subst h3
    obtain ⟨ps, e2, p⟩ := pairs_of (K := K) (xs := xs) (l := l) ⟨by have := h.1; simpa using this, fun i a b p q => h.2 (i + 1) a b (by simpa using p) (by simpa using q)⟩
    exact ⟨t :: ps, by rw [e, e2]; rfl, .cons (SqT.of h1) p⟩
/-- dict(pairs) -/
theorem dict_pairs {K : PySem.W.Frag} {H : Hp} {a : Addr} {xs : List V} {l : List PI} {Q : VK} (hx : IsAll H xs l) (ha : SqL K H a xs) (q : ∀ p, H p = none → Q (.ref p) (upd H p (.dK (dI (merge [] l))))) : rDictP K [.ref a] H Q := by
  unfold rDictP
  obtain ⟨ps, e, p⟩ := pairs_of (K := K) hx
  refine ⟨a, ps, dI l, rfl, by rw [← e]; exact ha, p, fun d nd => ?_⟩
  have e2 : mergeK [] (dI l) = dI (merge [] l) := dI_merge l []
  rw [e2]
  exact q d nd
/-! ### a dict under its lock -/
theorem lock_in {F H : Hp} {d : Addr} {o : HO} (s : Same F H) : Same (fun c => if c = d then none else F c) (upd H d o) := fun c u h => by
  by_cases e : c = d
  · simp only [e, if_true] at h; cases h
  · simp only [e, if_false] at h
    rw [upd_ne e]; exact s c u h
theorem lock_out {F H F2 H2 : Hp} {d : Addr} {o u : HO} (s : Same F H) (h : H d = some u) (g : Gr mu0 (fun c => if c = d then none else F c) (upd H d o) F2 H2) :
    H2 d = some o ∧ Same F2 (fun c => if c = d then F d else F2 c) ∧ Gr mu0 F H (fun c => if c = d then F d else F2 c) (upd H2 d u) := by
  have n2 : F2 d = none := by
    cases e : F2 d with
    | none => rfl
    | some z =>
      rcases g.nw d z e with k | k
      · simp only [if_true] at k; cases k
      · rw [upd_same] at k; cases k
  refine ⟨g.fr d o upd_same (fun z => z), fun c z e => ?_, ⟨fun c z e => ?_, fun c z e => ?_, fun c z e => ?_, fun c z e m => ?_, fun c e => ?_⟩⟩
  · by_cases k : c = d
    · rw [k, n2] at e; cases e
    · simp only [k, if_false]; exact e
  · by_cases k : c = d
    · simp only [k, if_true]; rw [← k]; exact e
    · simp only [k, if_false]
      exact g.ff c z (by simp only [k, if_false]; exact e)
  · by_cases k : c = d
    · simp only [k, if_true] at e
      rw [k, upd_same, ← h]
      exact s d z e
    · simp only [k, if_false] at e
      rw [upd_ne k]; exact g.fh c z e
  · by_cases k : c = d
    · simp only [k, if_true] at e
      exact .inl (by rw [k]; exact e)
    · simp only [k, if_false] at e
      rcases g.nw c z e with q | q
      · simp only [k, if_false] at q; exact .inl q
      · rw [upd_ne k] at q; exact .inr q
  · by_cases k : c = d
    · rw [k, upd_same]; rw [k, h] at e; exact e
    · rw [upd_ne k]
      exact g.fr c z (by rw [upd_ne k]; exact e) (fun z => z)
  · by_cases k : c = d
    · rw [k, upd_same] at e; cases e
    · rw [upd_ne k] at e
      have q := g.th c e
      rw [upd_ne k] at q; exact q
/-- the signs that aren't 0, in order -/
def nz (p : PI) : Bool := decide (p.b ≠ 0)
def told (l : List PI) : List PI := srt (l.filter nz)
theorem dI_get {l : List PI} {i : Nat} (h : i < l.length) : (dI l)[i]? = some (Sum.inl l[i].a, V.int l[i].b) := by
  unfold dI
  rw [List.getElem?_map, List.getElem?_eq_getElem h]
  rfl
theorem filter_take_succ {l : List PI} {f : PI → Bool} {i : Nat} (h : i < l.length) : (l.take (i + 1)).filter f = (l.take i).filter f ++ (if f l[i] = true then [l[i]] else []) := by
  rw [List.take_add_one, List.getElem?_eq_getElem h, List.filter_append]
  show _ ++ List.filter f [l[i]] = _
  rw [List.filter_cons]
  split <;> rfl
theorem nd_srt {l : List PI} (h : Nd l) : Nd (srt l) := ((srt_perm l).map (fun p : PI => p.a)).nodup_iff.mpr h
theorem mem_srt {l : List PI} {q : PI} : q ∈ srt l ↔ q ∈ l := (srt_perm l).mem_iff
theorem mem_put {l : List PI} {x v : Int} {q : PI} (m : q ∈ put l x v) : q ∈ l ∨ q = ⟨x, v⟩ := by
  unfold put at m
  split at m
  · obtain ⟨z, hz, e⟩ := List.mem_map.mp m
    split at e
    · rename_i h1 h2
      exact .inr (by rw [← e, h2])
    · exact .inl (by rw [← e]; exact hz)
  · rcases List.mem_append.mp m with m | m
    · exact .inl m
    · exact .inr (List.mem_singleton.mp m)
/-! ### sorted(d.items()), d a dict of ints to ints -/
section
open PySem.Spec PyProof.Rows
variable {X : Cx}
@[irreducible] def rSortIt : V → Hp → VK → Prop := fun x H Q => ∃ (d : Addr) (l : List PI), x = .ref d ∧ H d = some (.dK (dI l)) ∧
  ∀ (H' : Hp) (p : Addr) (ys : List Addr), Same H H' → H p = none → (∀ t ∈ ys, H t = none) → p ∉ ys → (∀ b, b ≠ p → b ∉ ys → H' b = H b) → H' p = some (.lst (ys.map V.ref)) → All2 (fun t (q : PI) => H' t = some (.tup [.int q.a, .int q.b])) ys (srt l) → Q (.ref p) H'
end
/-! ### sum of a tuple; a tuple not at all or once -/
section
open PySem.Spec PyProof.Rows
variable {X : Cx}
theorem tup_mul1 (l : Addr) (items : Array Value) (n : Nat) (dd : Option Addr) (sl : Array (Option Value)) (u : Tok) (hne : items.isEmpty = false) :
    Meets (Builtin.«tuple.__mul__» ⟨[.ref l, .int 1 u], []⟩) (fun _ R s => s.heap.get? l = some { cls := .type "tuple", dict := dd, data := .seq items n, slots := sl } ∧ R (.ok (.ret (Value.ref l))) s) :=
  .of_wp fun prog w A R s h => by
    obtain ⟨hp, g, d, tk, os⟩ := s
    obtain ⟨hl, h⟩ := h
    have f1 := AutoSeq1.idx_int
    wp_walk using wpAny_loadPart' hl
    exact ⟨_, rfl, h⟩
theorem tup_mul0 (l : Addr) (items : Array Value) (n : Nat) (dd : Option Addr) (sl : Array (Option Value)) (u : Tok) (hne : items.isEmpty = false) :
    Meets (Builtin.«tuple.__mul__» ⟨[.ref l, .int 0 u], []⟩) (fun _ R s => s.heap.get? l = some { cls := .type "tuple", dict := dd, data := .seq items n, slots := sl } ∧
      R (.ok (.ret (Value.ref s.heap.objs.size))) { s with heap := s.heap.push { cls := Value.type "tuple", data := Data.seq #[] }, toks := s.toks }) :=
  .of_wp fun prog w A R s h => by
    obtain ⟨hp, g, d, tk, os⟩ := s
    obtain ⟨hl, h⟩ := h
    have f1 := AutoSeq1.idx_int
    wp_walk using wpAny_loadPart' hl
    exact ⟨_, rfl, h⟩
def rRep01 (K : PySem.W.Frag) : R2 := fun x y H Q => ∃ l k xs, x = .ref l ∧ y = .int k ∧ SqT K H l xs ∧ xs ≠ [] ∧ ((k = 1 ∧ Q (.ref l) H) ∨ (k = 0 ∧ ∀ p, H p = none → Q (.ref p) (upd H p (.tup []))))
theorem op_rep01 : OpR X (binaryOp .Mult) (rRep01 X.K) := by
  intro pins s σ H x y v u Q I rx ry h
  obtain ⟨l, k, xs, rfl, rfl, hT, hne, h⟩ := h
  cases rx
  obtain ⟨tk, rfl⟩ := ry
  obtain ⟨its, r, ⟨⟨cls, dd, data, sl⟩, ho, hc, n, hd⟩, hs⟩ := I.tuple hT
  simp only at hc hd
  subst hc hd
  have hi : its.toArray.isEmpty = false := by
    cases its with
    | nil => have := r.length; exact absurd (List.eq_nil_of_length_eq_zero this) hne
    | cons a b => rfl
  rcases h with ⟨rfl, q⟩ | ⟨rfl, q⟩
  · refine wpAny_binaryOp_repeat_ref (T := "tuple") (U := "int") (by decide) ⟨_, ho, rfl⟩ (fun s' => typeIs_int s' 1 tk) noFill_tuple_mul F.fills_int_mul F.slot_int_rmul repeat_tuple F.slot_int_index.lookup
      (call_meets F.slot_int_rmul (typeIs_int s 1 tk) F.entry_int_rmul (F.args_int_rmul_2 _ _) (int_rmul_tuple 1 tk l its.toArray n dd sl)
        ⟨ho, rfl, ⟨_, ho, rfl⟩, call_meets F.slot_tuple_mul ⟨_, ho, rfl⟩ F.entry_tuple_mul (F.args_tuple_mul_2 _ _) (tup_mul1 l its.toArray n dd sl tk hi) ⟨ho, ?_⟩⟩)
    exact ⟨.ref l, H, I, rfl, q⟩
  · refine wpAny_binaryOp_repeat_ref (T := "tuple") (U := "int") (by decide) ⟨_, ho, rfl⟩ (fun s' => typeIs_int s' 0 tk) noFill_tuple_mul F.fills_int_mul F.slot_int_rmul repeat_tuple F.slot_int_index.lookup
      (call_meets F.slot_int_rmul (typeIs_int s 0 tk) F.entry_int_rmul (F.args_int_rmul_2 _ _) (int_rmul_tuple 0 tk l its.toArray n dd sl)
        ⟨ho, rfl, ⟨_, ho, rfl⟩, call_meets F.slot_tuple_mul ⟨_, ho, rfl⟩ F.entry_tuple_mul (F.args_tuple_mul_2 _ _) (tup_mul0 l its.toArray n dd sl tk hi) ⟨ho, ?_⟩⟩)
    refine ⟨.ref s.heap.objs.size, _, I.laid (t' := s.toks) (o := .tup []) (fun b ob q => Heap.get?_push_of_some _ q) (Nat.le_refl _) ?_, rfl, q _ (I.hok.fresh (Nat.le_refl _))⟩
    exact ⟨nil_le, _, .nil, IsTup.new _ _⟩
end
/-! slices of tuples, +: the ways -/
@[irreducible] def rSlQ (K : PySem.W.Frag) : V → Option Int → Option Int → Hp → VK → Prop := rSlA K
theorem sl_tupQ {X : Cx} : SlR X (rSlQ X.K) := by
  unfold rSlQ
  exact sl_tupA
@[irreducible] def rCatQ (K : PySem.W.Frag) : R2 := rCatA K
theorem op_catQ {X : Cx} : OpR X (binaryOp .Add) (rCatQ X.K) := by
  unfold rCatQ
  exact op_catA
theorem slA_all {K : PySem.W.Frag} {H : Hp} {a : Addr} {xs : List V} {lo hi : Option Int} {Q : VK} (h : SqT K H a xs) (w : HT.sIx xs.length 0 lo = 0 ∧ HT.sIx xs.length xs.length hi = xs.length) (q : Q (.ref a) H) : rSlQ K (.ref a) lo hi H Q := by
  unfold rSlQ
  exact ⟨a, xs, rfl, h, fun _ => q, fun n => absurd w n⟩
theorem slA_cut {K : PySem.W.Frag} {H : Hp} {a : Addr} {xs : List V} {lo hi : Option Int} {Q : VK} (h : SqT K H a xs) (w : ¬ (HT.sIx xs.length 0 lo = 0 ∧ HT.sIx xs.length xs.length hi = xs.length)) (q : ∀ p, H p = none → Q (.ref p) (upd H p (.tup (cutV xs lo hi)))) : rSlQ K (.ref a) lo hi H Q := by
  unfold rSlQ
  exact ⟨a, xs, rfl, h, fun n => absurd n w, fun _ => q⟩
theorem catA_nil {K : PySem.W.Frag} {H : Hp} {a b : Addr} {ys : List V} {Q : VK} (h : SqT K H a []) (h2 : SqT K H b ys) (l : ys.length ≤ sizeLine) (q : Q (.ref b) H) : rCatQ K (.ref a) (.ref b) H Q := by
  unfold rCatQ
  exact ⟨a, b, [], ys, rfl, rfl, h, h2, by simpa using l, fun _ => q, fun n => absurd rfl n, fun n => absurd rfl n⟩
theorem catA_new {K : PySem.W.Frag} {H : Hp} {a b : Addr} {xs ys : List V} {Q : VK} (h : SqT K H a xs) (h2 : SqT K H b ys) (l : xs.length + ys.length ≤ sizeLine) (n1 : xs ≠ []) (n2 : ys ≠ []) (q : ∀ p, H p = none → Q (.ref p) (upd H p (.tup (xs ++ ys)))) : rCatQ K (.ref a) (.ref b) H Q := by
  unfold rCatQ
  exact ⟨a, b, xs, ys, rfl, rfl, h, h2, l, fun e => absurd e n1, fun _ e => absurd e n2, fun _ _ => q⟩
/-! ### enumerate(tuple); sorted(dict) of int keys, of any length -/
section
open PySem.Spec PyProof.Rows
set_option maxHeartbeats 8000000 in
section
variable {prog : Program} {w : World} {A : Around} {E : Value → Shared → Prop} {s : Shared}
end
/-- sorted(d) of a dict whose keys are ints -/
@[irreducible] def rSortDI : List V → Hp → VK → Prop := fun xs H Q => ∃ (a : Addr) (kvs : List (Key × V)) (ks : List Int), xs = [.ref a] ∧ Rd H a (.dK kvs) ∧ kvs.map (·.1) = ks.map Sum.inl ∧
  ∀ (ys : List Int) (p : Addr), ys.Perm ks → ys.Pairwise (· ≤ ·) → H p = none → Q (.ref p) (upd H p (.lst (ys.map V.int)))
end
/-! ### dicts keyed by data: tuples in tuples -/
section
open PySem.Spec PyProof.Rows
mutual
def keyD : PyData → NestedKey
  | .int i => .num i
  | .str x => .text x
  | .tuple xs => .tup (keyDs xs)
  | _ => .none
def keyDs : List PyData → List NestedKey
  | [] => []
  | d :: ds => keyD d :: keyDs ds
end
mutual
def kable : PyData → Bool
  | .none => true
  | .int _ => true
  | .str _ => true
  | .tuple xs => kables xs
  | _ => false
def kables : List PyData → Bool
  | [] => true
  | d :: ds => kable d && kables ds
end
mutual
theorem keyD_eqv : ∀ a b : PyData, kable a = true → kable b = true → (keyD a = keyD b ↔ PyData.eqv a b = true)
  | .none, b, _, hb => by cases b <;> simp_all [keyD, PyData.eqv, kable]
  | .int i, b, _, hb => by cases b <;> simp_all [keyD, PyData.eqv, kable]
  | .str x, b, _, hb => by cases b <;> simp_all [keyD, PyData.eqv, kable]
  | .tuple xs, .tuple ys, ha, hb => by
    rw [keyD, keyD, PyData.eqv, NestedKey.tup.injEq]
    exact keyDs_eqv xs ys (by rw [kable] at ha; exact ha) (by rw [kable] at hb; exact hb)
  | .tuple xs, .none, _, _ => by simp [keyD, PyData.eqv]
  | .tuple xs, .int _, _, _ => by simp [keyD, PyData.eqv]
  | .tuple xs, .str _, _, _ => by simp [keyD, PyData.eqv]
  | .tuple xs, .bool _, _, hb => by simp [kable] at hb
  | .tuple xs, .list _, _, hb => by simp [kable] at hb
  | .tuple xs, .dict _, _, hb => by simp [kable] at hb
  | .bool _, _, ha, _ => by simp [kable] at ha
  | .list _, _, ha, _ => by simp [kable] at ha
  | .dict _, _, ha, _ => by simp [kable] at ha
theorem keyDs_eqv : ∀ a b : List PyData, kables a = true → kables b = true → (keyDs a = keyDs b ↔ PyData.eqvAll a b = true)
  | [], [], _, _ => by simp [keyDs, PyData.eqvAll]
  | [], _ :: _, _, _ => by simp [keyDs, PyData.eqvAll]
  | _ :: _, [], _, _ => by simp [keyDs, PyData.eqvAll]
  | a :: as, b :: bs, ha, hb => by
    rw [kables, Bool.and_eq_true] at ha hb
    rw [keyDs, keyDs, PyData.eqvAll, Bool.and_eq_true, List.cons.injEq, keyD_eqv a b ha.1 hb.1, keyDs_eqv as bs ha.2 hb.2]
end
mutual
theorem keyD_depth : ∀ d : PyData, (keyD d).depth ≤ d.depth
  | .none => by simp [keyD, NestedKey.depth]
  | .int _ => by simp [keyD, NestedKey.depth]
  | .str _ => by simp [keyD, NestedKey.depth]
  | .bool _ => by simp [keyD, NestedKey.depth]
  | .list _ => by simp [keyD, NestedKey.depth]
  | .dict _ => by simp [keyD, NestedKey.depth]
  | .tuple xs => by
    rw [keyD, NestedKey.depth, PyData.depth]
    exact Nat.succ_le_succ (keyDs_depth xs)
theorem keyDs_depth : ∀ ds : List PyData, NestedKey.depthAll (keyDs ds) ≤ PyData.depthAll ds
  | [] => by simp [keyDs, NestedKey.depthAll]
  | d :: ds => by
    have h1 := keyD_depth d
    have h2 := keyDs_depth ds
    rw [keyDs, NestedKey.depthAll, PyData.depthAll]
    omega
end
section
variable {X : Cx} {pins : List (Addr × Obj)} {σ : L2.St} {H : Hp} {s : Shared}
mutual
theorem key_at (I : Inv X pins σ H s) : ∀ (d : PyData) (v : V) (u : Value), kable d = true → Dp X.K H v d → RelV v u → NestedIs s.heap (keyD d) u
  | .none, _, _, _, hd, r => by cases hd; cases r; exact .none
  | .int i, _, _, _, hd, r => by cases hd; obtain ⟨t, rfl⟩ := r; exact .int _ _
  | .str x, _, _, _, hd, r => by cases hd; obtain ⟨t, rfl⟩ := r; exact .text _ _
  | .tuple ds, _, _, hk, hd, r => by
    cases hd with
    | tup hs ha =>
      cases r
      obtain ⟨its, rv, ⟨o, ho, hc, n, hdt⟩, _⟩ := I.tuple hs
      exact .tup ho hc hdt (by simpa using keys_at I ds _ its (by rw [kable] at hk; exact hk) ha rv)
  | .bool _, _, _, hk, _, _ => by simp [kable] at hk
  | .list _, _, _, hk, _, _ => by simp [kable] at hk
  | .dict _, _, _, hk, _, _ => by simp [kable] at hk
theorem keys_at (I : Inv X pins σ H s) : ∀ (ds : List PyData) (vs : List V) (us : List Value), kables ds = true → DpAll X.K H vs ds → Vals vs us → NestedAll s.heap (keyDs ds) us
  | [], _, _, _, hd, r => by cases hd; cases r; exact .nil
  | d :: ds, _, _, hk, hd, r => by
    rw [kables, Bool.and_eq_true] at hk
    cases hd with
    | cons h1 h2 =>
      cases r with
      | cons r1 r2 => exact .cons (key_at I d _ _ hk.1 h1 r1) (keys_at I ds _ _ hk.2 h2 r2)
end
end
/-- a key, the place of its tuple, the value -/
abbrev Ne := NestedKey × Addr × V
def RelN : List Ne → List (NestedKey × Addr × Value) → Prop := Paired fun p q => p.1 = q.1 ∧ p.2.1 = q.2.1 ∧ RelV p.2.2 q.2.2
def NOk (P : Program) (w : World) (a : Addr) (xs : List Ne) (h : Heap) : Prop := xs.length ≤ sizeLine ∧ (a == sysModules) = false ∧ ∃ ys, RelN xs ys ∧
  ∃ o es ep, h.get? a = some o ∧ o.ExactDict ∧ o.data = .dict es ep ∧ es.toList = ys.map (entryOfKey (nestedKind P w)) ∧ (ys.map (·.1)).Nodup
/-- a dict of such keys -/
def DictN (P : Program) (w : World) (a : Addr) (xs : List Ne) : HO := .ext (NOk P w a xs)
theorem NOk.obj {P : Program} {w : World} {a : Addr} {xs : List Ne} {h : Heap} {H : Hp} (x : NOk P w a xs h) : ObjOk P w H h a (DictN P w a xs) := by
  refine ⟨x, ?_, fun h1 h2 y k => ?_⟩
  · obtain ⟨_, _, _, _, o, _, _, e, _⟩ := x
    exact ⟨o, e⟩
  · obtain ⟨z1, z2, ys, r, o, es, ep, e, c⟩ := y
    exact ⟨z1, z2, ys, r, o, es, ep, k _ e, c⟩
def valN (xs : List Ne) (k : NestedKey) : Option V := (xs.find? fun x => decide (x.1 = k)).map (·.2.2)
def putN (xs : List Ne) (k : NestedKey) (b : Addr) (v : V) : List Ne := if (valN xs k).isSome then xs.map (fun x => if x.1 = k then (x.1, x.2.1, v) else x) else xs ++ [(k, b, v)]
theorem RelN.val {xs : List Ne} {ys : List (NestedKey × Addr × Value)} (r : RelN xs ys) (k : NestedKey) : RelO (valN xs k) ((atKey ys k).map (·.2)) := by
  induction r with
  | nil => exact True.intro
  | @cons p q ps qs h t ih =>
    obtain ⟨h1, h2, h3⟩ := h
    unfold valN atKey at ih ⊢
    rw [List.find?_cons, List.find?_cons]
    by_cases e : p.1 = k
    · rw [decide_eq_true e, decide_eq_true (h1 ▸ e)]
      exact h3
    · rw [decide_eq_false e, decide_eq_false (h1 ▸ e)]
      exact ih
theorem RelN.put {xs : List Ne} {ys : List (NestedKey × Addr × Value)} (r : RelN xs ys) (k : NestedKey) (b : Addr) {v : V} {u : Value} (rv : RelV v u) : RelN (putN xs k b v) (storedH ys k b u) := by
  have e : (valN xs k).isSome = (atKey ys k).isSome := by
    rw [(r.val k).isSome_eq, Option.isSome_map]
  unfold putN storedH
  rw [e]
  by_cases h : (atKey ys k).isSome = true
  · rw [if_pos h, if_pos h]
    clear e h
    induction r with
    | nil => exact .nil
    | @cons p q ps qs hpq t ih =>
      obtain ⟨h1, h2, h3⟩ := hpq
      refine .cons ?_ ih
      unfold putAt
      dsimp only
      by_cases e : p.1 = k
      · rw [if_pos e, if_pos (h1 ▸ e)]; exact ⟨h1, h2, rv⟩
      · rw [if_neg e, if_neg (h1 ▸ e)]; exact ⟨h1, h2, h3⟩
  · rw [if_neg h, if_neg h]
    clear e h
    induction r with
    | nil => exact .cons ⟨rfl, rfl, rv⟩ .nil
    | cons hpq t ih => exact .cons hpq ih
/-- the keys stand yet -/
def KeysN (K : PySem.W.Frag) (H : Hp) (xs : List Ne) : Prop := ∀ t ∈ xs, ∃ d, keyD d = t.1 ∧ kable d = true ∧ d.depth ≤ 8 ∧ Dp K H (.ref t.2.1) d
section
variable {X : Cx} {pins : List (Addr × Obj)} {σ : L2.St} {H : Hp} {s : Shared} {a : Addr} {xs : List Ne}
theorem n_of (I : Inv X pins σ H s) (e : H a = some (DictN X.prog X.w a xs)) (hk : KeysN X.K H xs) : xs.length ≤ sizeLine ∧ (a == sysModules) = false ∧ ∃ ys, RelN xs ys ∧ s.heap.DictOfH (nestedKind X.prog X.w) a ys := by
  obtain ⟨⟨z1, z2, ys, r, o, es, ep, e1, e2, e3, e4, e5⟩, _⟩ := (show ObjOk X.prog X.w H s.heap a (DictN X.prog X.w a xs) from I.hok a _ e)
  refine ⟨z1, z2, ys, r, o, es, ep, e1, e2, e3, e4, ?_, e5⟩
  have all : ∀ {xs : List Ne} {ys : List (NestedKey × Addr × Value)}, RelN xs ys → KeysN X.K H xs → ∀ x ∈ ys, (nestedKind X.prog X.w).is s.heap x.1 x.2.1 := by
    intro xs ys r
    induction r with
    | nil => intro _ x hx; exact nomatch hx
    | @cons p q ps qs h t ih =>
      intro hk x hx
      obtain ⟨h1, h2, h3⟩ := h
      rcases List.mem_cons.mp hx with e | hx
      · subst e
        obtain ⟨d, k1, k2, k3, k4⟩ := hk p (List.mem_cons_self ..)
        rw [← h1, ← h2, ← k1]
        exact ⟨key_at I d _ _ k2 k4 rfl, Nat.le_trans (keyD_depth d) k3⟩
      · exact ih (fun t m => hk t (List.mem_cons_of_mem _ m)) x hx
  exact all r hk
end
/-- what the dict at a holds at the key y -/
def NGet (X : Cx) (H : Hp) (a : Addr) (y : V) (o : Option V) : Prop := ∃ xs b d, H a = some (DictN X.prog X.w a xs) ∧ KeysN X.K H xs ∧ y = .ref b ∧ Dp X.K H y d ∧ kable d = true ∧ d.depth ≤ 8 ∧ o = valN xs (keyD d)
def NPut (X : Cx) (H : Hp) (a : Addr) (y v : V) (H' : Hp) : Prop := ∃ xs b d, H a = some (DictN X.prog X.w a xs) ∧ KeysN X.K H xs ∧ y = .ref b ∧ Dp X.K H y d ∧ kable d = true ∧ d.depth ≤ 8 ∧ xs.length < sizeLine ∧ H' = upd H a (DictN X.prog X.w a (putN xs (keyD d) b v))
theorem putN_len (xs : List Ne) (k : NestedKey) (b : Addr) (v : V) : (putN xs k b v).length ≤ xs.length + 1 := by
  unfold putN
  split
  · rw [List.length_map]; omega
  · rw [List.length_append]; exact Nat.le_refl _
section
variable {X : Cx} {pins : List (Addr × Obj)} {σ : L2.St} {H : Hp} {s : Shared} {a : Addr} {y v : V} {u r : Value} {o : Option V} {A : Around} {E : Value → Shared → Prop}
theorem n_notIn {Q : Value → Shared → Prop} (hu : A.units + 9 < cLine) (I : Inv X pins σ H s) (g : NGet X H a y o) (ry : RelV y u) (h : ∀ s', Inv X pins σ H s' → Q (.bool (!o.isSome)) s') : wpAny (model X.prog X.w) A (compareOp .NotIn u (.ref a)) Q E s := by
  obtain ⟨xs, b, d, e, hk, rfl, hd, kd, dd, l⟩ := g
  cases (show u = Value.ref b from ry)
  obtain ⟨z, zd, ys, rel, D⟩ := n_of I e hk
  refine wpAny_notIn_heap (knd := nestedKind X.prog X.w) (show A.units + 1 + 8 < cLine by omega) ⟨key_at I d _ _ kd hd rfl, Nat.le_trans (keyD_depth d) dd⟩ zd D ?_
  have q := (rel.val (keyD d)).isSome_eq
  rw [Option.isSome_map] at q
  rw [← q, ← l]
  exact h _ (I.tok _)
theorem n_set {H' : Hp} {Q : Unit → Shared → Prop} (hu : A.units + 9 < cLine) (I : Inv X pins σ H s) (g : NPut X H a y v H') (ry : RelV y u) (rv : RelV v r) (h : ∀ s', Inv X pins σ H' s' → Q () s') : wpAny (model X.prog X.w) A (setItem (.ref a) u r) Q E s := by
  obtain ⟨xs, b, d, e, hk, rfl, hd, kd, dd, l, rfl⟩ := g
  cases (show u = Value.ref b from ry)
  obtain ⟨z, zd, ys, rel, D⟩ := n_of I e hk
  have hz : ys.length ≤ sizeLine := by rw [← Paired.length rel]; exact z
  have hl : (putN xs (keyD d) b v).length ≤ sizeLine := by have := putN_len xs (keyD d) b v; omega
  refine wpAny_setItem_heap (hsz := hz) (knd := nestedKind X.prog X.w) (show A.units + 1 + 8 < cLine by omega) ⟨key_at I d _ _ kd hd rfl, Nat.le_trans (keyD_depth d) dd⟩ D fun h' D' hs => h _ ?_
  obtain ⟨q, es, ep, hq, h2, h3, h4, _, h5⟩ := D'
  exact d_write I (by rw [e]; exact True.intro) hs ⟨q, hq⟩ (NOk.obj ⟨hl, zd, _, rel.put _ b rv, q, es, ep, hq, h2, h3, h4, h5⟩)
end
/-! the rules -/
def tNNew (P : Program) (w : World) : TE := fun _ H Q => ∀ p, H p = none → Q (.ref p) (upd H p (DictN P w p []))
def tNIn (X : Cx) (n : Bool) (ty td : TE) : TE := fun σ H Q => ty σ H fun y H1 => td σ H1 fun x H2 => ∃ a o, x = .ref a ∧ NGet X H2 a y o ∧ Q (.bl (if n then !o.isSome else o.isSome)) H2
def sNPut (X : Cx) (td ty tv : TE) : TS := fun D σ H => tv σ H fun v H1 => td σ H1 fun x H2 => ty σ H2 fun y H3 => ∃ a H4, x = .ref a ∧ NPut X H3 a y v H4 ∧ D.nx σ H4
section
variable {X : Cx} {o i value : PySem.Expr} {pos pos' : Pos} {td ty tv : TE}
theorem pe_nnew : PE X (.Dict [] [] pos) (tNNew X.prog X.w) := ⟨fun pins s σ H Q I h => by
  refine wpAny_Dict_empty ⟨.ref s.heap.objs.size, _, I.laid (a := s.heap.objs.size) (o := DictN X.prog X.w s.heap.objs.size []) (t' := s.toks) (fun _ _ q => Heap.get?_push_of_some _ q) (Nat.le_refl _) ?_, rfl, h _ (I.hok.fresh (Nat.le_refl _))⟩
  exact NOk.obj ⟨Nat.zero_le _, beq_eq_false_iff_ne.mpr (Ne.symm (Nat.ne_of_lt I.big)), [], .nil, _, #[], 0, Heap.get?_push_size _ rfl, ⟨rfl, rfl, rfl⟩, rfl, rfl, List.nodup_nil⟩⟩
theorem pc_nnotin (hu : X.A.units + 9 < cLine) (hi : PE X i ty) (ho : PE X o td) : PC X .NotIn i o (tNIn X true ty td) := by
  refine ⟨fun pins s σ H Q I h => thn (hi.run pins s σ H _ I h) fun iv s1 ⟨y, H1, J1, ry, q1⟩ => thn (ho.run pins s1 σ H1 _ J1 q1) fun u s2 ⟨x, H2, J2, rx, a, ov, ex, g, q2⟩ => ?_⟩
  subst ex
  obtain rfl : u = Value.ref a := rx
  exact n_notIn hu J2 g ry fun s3 J3 => ⟨.bl (!ov.isSome), H2, J3, rfl, q2⟩
theorem ps_nput (hu : X.A.units + 9 < cLine) (ho : PE X o td) (hi : PE X i ty) (hv : PE X value tv) (hs : swapsWith value (some (.Subscript o i pos')) pos.line X.env = pure false) : PS X (.Assign [.Subscript o i pos'] value pos) (sNPut X td ty tv) := by
  refine ⟨fun pins s σ H D I h => wpAny_Assign_Subscript (thn (hv.run pins s σ H _ I h) fun r s1 ⟨v, H1, J1, rv, q1⟩ => thn (ho.run pins s1 σ H1 _ J1 q1) fun u s2 ⟨x, H2, J2, rx, q2⟩ => thn (hi.run pins s2 σ H2 _ J2 q2) fun iv s3 ⟨y, H3, J3, ry, a, H4, ex, g, q3⟩ => ?_) hs⟩
  subst ex
  obtain rfl : u = Value.ref a := rx
  exact n_set hu J3 g ry rv fun s4 J4 => ⟨σ, H4, J4, q3⟩
end
/-! the same, of typed data -/
abbrev DL (α : Type) := List (Addr × α × V)
def neL {α : Type} [Dat α] (l : DL α) : List Ne := l.map fun t => (keyD (Dat.py t.2.1), t.1, t.2.2)
def DictD (P : Program) (w : World) {α : Type} [Dat α] (a : Addr) (l : DL α) : HO := DictN P w a (neL l)
def hasD {α : Type} [DecidableEq α] (l : DL α) (x : α) : Bool := l.any fun t => decide (t.2.1 = x)
def putD {α : Type} [DecidableEq α] (l : DL α) (b : Addr) (x : α) (v : V) : DL α := if hasD l x = true then l.map (fun t => if t.2.1 = x then (t.1, t.2.1, v) else t) else l ++ [(b, x, v)]
def KeysD {α : Type} [Dat α] (H : Hp) (l : DL α) : Prop := ∀ t ∈ l, Is H (.ref t.1) t.2.1
class Kd (α : Type) [Dat α] : Prop where
  k : ∀ d : α, kable (Dat.py d) = true
instance : Kd Int := ⟨fun _ => by show kable (.int _) = true; rw [kable]⟩
theorem kd_all {α : Type} [Dat α] [Kd α] : ∀ l : List α, kables (l.map Dat.py) = true
  | [] => by rw [List.map_nil, kables]
  | d :: l => by rw [List.map_cons, kables, Kd.k, kd_all l]; rfl
instance {α : Type} [Dat α] [Kd α] : Kd (Tup α) := ⟨fun d => by show kable (.tuple (d.l.map Dat.py)) = true; rw [kable]; exact kd_all d.l⟩
instance {α β : Type} [Dat α] [Dat β] [Kd α] [Kd β] : Kd (T2 α β) := ⟨fun d => by
  show kable (.tuple [Dat.py d.a, Dat.py d.b]) = true
  rw [kable, kables, kables, kables, Kd.k, Kd.k]; rfl⟩
instance {α β γ : Type} [Dat α] [Dat β] [Dat γ] [Kd α] [Kd β] [Kd γ] : Kd (T3 α β γ) := ⟨fun d => by
  show kable (.tuple [Dat.py d.a, Dat.py d.b, Dat.py d.c]) = true
  rw [kable, kables, kables, kables, kables, Kd.k, Kd.k, Kd.k]; rfl⟩
section
variable {α : Type} [Dat α] [DecidableEq α] [Kd α]
theorem keyD_inj (a b : α) : (keyD (Dat.py a) = keyD (Dat.py b)) = (a = b) := propext ((keyD_eqv _ _ (Kd.k a) (Kd.k b)).trans (Dat.eqv a b))
theorem KeysD.n {K : PySem.W.Frag} {H : Hp} {l : DL α} (h : KeysD H l) (hl : Dat.dep α ≤ 8) : KeysN K H (neL l) := fun t m => by
  obtain ⟨x, mx, rfl⟩ := List.mem_map.mp m
  exact ⟨Dat.py x.2.1, rfl, Kd.k _, Nat.le_trans (Dat.depth _) hl, Dat.dp (h x mx)⟩
theorem KeysD.up {H H' : Hp} {l : DL α} (h : KeysD H l) (s : Same H H') : KeysD H' l := fun t m => Is.up (h t m) s
theorem valN_neL (x : α) : ∀ l : DL α, (valN (neL l) (keyD (Dat.py x))).isSome = hasD l x
  | [] => rfl
  | t :: l => by
    have ih := valN_neL x l
    unfold valN neL hasD at ih ⊢
    rw [List.map_cons, List.find?_cons, List.any_cons]
    simp only [keyD_inj] at ih ⊢
    by_cases e : t.2.1 = x
    · rw [decide_eq_true e]; rfl
    · rw [decide_eq_false e, Bool.false_or]; exact ih
theorem putN_neL (l : DL α) (b : Addr) (x : α) (v : V) : putN (neL l) (keyD (Dat.py x)) b v = neL (putD l b x v) := by
  unfold putN putD
  rw [valN_neL]
  by_cases h : hasD l x = true
  · rw [if_pos h, if_pos h]
    unfold neL
    rw [List.map_map, List.map_map]
    congr 1
    funext t
    simp only [Function.comp, keyD_inj]
    by_cases e : t.2.1 = x
    · rw [if_pos e, if_pos e]
    · rw [if_neg e, if_neg e]
  · rw [if_neg h, if_neg h]
    unfold neL
    rw [List.map_append]; rfl
theorem NGet.d {X : Cx} {P : Program} {w : World} {H : Hp} {a b : Addr} {l : DL α} {x : α} (h : H a = some (DictD P w a l)) (k : KeysD H l) (hx : Is H (.ref b) x) (hP : X.prog = P := by rfl) (hw : X.w = w := by rfl) (hl : Dat.dep α ≤ 8 := by decide) : NGet X H a (.ref b) (valN (neL l) (keyD (Dat.py x))) := by
  subst hP hw
  exact ⟨neL l, b, Dat.py x, h, k.n hl, rfl, Dat.dp hx, Kd.k x, Nat.le_trans (Dat.depth x) hl, rfl⟩
theorem NPut.d {X : Cx} {P : Program} {w : World} {H : Hp} {a b : Addr} {l : DL α} {x : α} {v : V} (h : H a = some (DictD P w a l)) (k : KeysD H l) (hx : Is H (.ref b) x) (z : l.length < sizeLine) (hP : X.prog = P := by rfl) (hw : X.w = w := by rfl) (hl : Dat.dep α ≤ 8 := by decide) : NPut X H a (.ref b) v (upd H a (DictD P w a (putD l b x v))) := by
  subst hP hw
  exact ⟨neL l, b, Dat.py x, h, k.n hl, rfl, Dat.dp hx, Kd.k x, Nat.le_trans (Dat.depth x) hl, by unfold neL; rw [List.length_map]; exact z, by rw [putN_neL]; rfl⟩
theorem KeysD.put {H : Hp} {l : DL α} {b : Addr} {x : α} {v : V} (h : KeysD H l) (hx : Is H (.ref b) x) : KeysD H (putD l b x v) := fun t m => by
  unfold putD at m
  by_cases c : hasD l x = true
  · rw [if_pos c] at m
    obtain ⟨t0, m0, rfl⟩ := List.mem_map.mp m
    have z := h t0 m0
    show Is H (.ref (if t0.2.1 = x then (t0.1, t0.2.1, v) else t0).1) (if t0.2.1 = x then (t0.1, t0.2.1, v) else t0).2.1
    split <;> exact z
  · rw [if_neg c] at m
    rcases List.mem_append.mp m with m | m
    · exact h t m
    · rw [List.mem_singleton.mp m]; exact hx
theorem putD_len (l : DL α) (b : Addr) (x : α) (v : V) : (putD l b x v).length ≤ l.length + 1 := by
  unfold putD
  split
  · rw [List.length_map]; omega
  · rw [List.length_append]; exact Nat.le_refl _
end
theorem units9 {k : Nat} {A : Around} (r : Room k A) : A.units + 9 < cLine := by have := r.un; omega
end
/-! ### sorted(..) of data; of a dict keyed by data -/
section
open PySem.Spec PyProof.Rows PySem.W
/-- any two compare -/
class Lk (α : Type) [Dat α] : Prop where
  k : ∀ a b : α, alike (Dat.py a) (Dat.py b) = true
instance : Lk Int := ⟨fun a b => by show alike (.int a) (.int b) = true; rw [alike]⟩
theorem lk_all {α : Type} [Dat α] [Lk α] : ∀ xs ys : List α, alikeAll (xs.map Dat.py) (ys.map Dat.py) = true
  | [], _ => by rw [List.map_nil, alikeAll]
  | _ :: _, [] => by rw [List.map_nil, List.map_cons, alikeAll]
  | x :: xs, y :: ys => by rw [List.map_cons, List.map_cons, alikeAll, Lk.k x y, lk_all xs ys]; rfl
instance {α : Type} [Dat α] [Lk α] : Lk (Tup α) := ⟨fun a b => by show alike (.tuple (a.l.map Dat.py)) (.tuple (b.l.map Dat.py)) = true; rw [alike]; exact lk_all a.l b.l⟩
instance {α : Type} [Dat α] [Lk α] : Lk (List α) := ⟨fun a b => by show alike (.list (a.map Dat.py)) (.list (b.map Dat.py)) = true; rw [alike]; exact lk_all a b⟩
instance {α β : Type} [Dat α] [Dat β] [Lk α] [Lk β] : Lk (T2 α β) := ⟨fun a b => by
  show alike (.tuple [Dat.py a.a, Dat.py a.b]) (.tuple [Dat.py b.a, Dat.py b.b]) = true
  rw [alike, alikeAll, alikeAll, alikeAll, Lk.k, Lk.k]; rfl⟩
instance {α β γ : Type} [Dat α] [Dat β] [Dat γ] [Lk α] [Lk β] [Lk γ] : Lk (T3 α β γ) := ⟨fun a b => by
  show alike (.tuple [Dat.py a.a, Dat.py a.b, Dat.py a.c]) (.tuple [Dat.py b.a, Dat.py b.b, Dat.py b.c]) = true
  rw [alike, alikeAll, alikeAll, alikeAll, alikeAll, Lk.k, Lk.k, Lk.k]; rfl⟩
/-- all tuples that hold something, or none a tuple -/
class So (α : Type) [Dat α] : Prop where
  k : (∀ a : α, ∃ x r, Dat.py a = .tuple (x :: r)) ∨ ∀ a : α, Dat.py a ≠ .none ∧ ∀ xs, Dat.py a ≠ .tuple xs
instance : So Int := ⟨.inr fun _ => ⟨(fun e => nomatch e), fun _ e => nomatch e⟩⟩
instance {α : Type} [Dat α] : So (List α) := ⟨.inr fun _ => ⟨(fun e => nomatch e), fun _ e => nomatch e⟩⟩
instance {α β : Type} [Dat α] [Dat β] : So (T2 α β) := ⟨.inl fun _ => ⟨_, _, rfl⟩⟩
instance {α β γ : Type} [Dat α] [Dat β] [Dat γ] : So (T3 α β γ) := ⟨.inl fun _ => ⟨_, _, rfl⟩⟩
/-- Python's sorted -/
def sortD {α : Type} [Dat α] (l : List α) : List α := l.mergeSort (dataLe false Dat.py)
theorem sortD_perm {α : Type} [Dat α] (l : List α) : (sortD l).Perm l := List.mergeSort_perm _ _
theorem each_of {α : Type} [Dat α] {H : Hp} : ∀ {xs : List V} {its : List Value} {ds : List α}, Vals xs its → IsAll H xs ds → EachIs (fun u d => ∃ v, RelV v u ∧ Is H v d) its ds
  | _, _, [], .nil, _ => .nil
  | _, _, d :: ds, .nil, h => by have := h.1; simp at this
  | _, _, [], .cons _ _, h => by have := h.1; simp at this
  | x :: xs, u :: us, d :: ds, .cons r rs, h => .cons ⟨x, r, h.2 0 x d rfl rfl⟩ (each_of rs ⟨by have := h.1; simpa using this, fun i a b p q => h.2 (i + 1) a b (by simpa using p) (by simpa using q)⟩)
theorem each_back {α : Type} [Dat α] {H : Hp} : ∀ {its : List Value} {ds : List α}, EachIs (fun u d => ∃ v, RelV v u ∧ Is H v d) its ds → ∃ xs, Vals xs its ∧ IsAll H xs ds
  | _, _, .nil => ⟨[], .nil, All2.nil⟩
  | _, _, .cons ⟨v, r, i⟩ t => by
    obtain ⟨xs, rs, al⟩ := each_back t
    exact ⟨v :: xs, .cons r rs, All2.cons i al⟩
/-- sorted(xs), xs a list of data -/
@[irreducible] def rSortN (K : PySem.W.Frag) : List V → Hp → VK → Prop := fun vs H Q => ∃ (α : Type) (_ : Dat α) (_ : Lk α) (_ : So α) (F : Hp) (a : Addr) (xs : List V) (ds : List α), vs = [.ref a] ∧ Same F H ∧ SqL K H a xs ∧ IsAll F xs ds ∧ Dat.dep α ≤ 64 ∧
  ∀ (ys : List V) (p : Addr), IsAll F ys (sortD ds) → H p = none → Q (.ref p) (upd H p (.lst ys))
theorem rSortN.mk {α : Type} [Dat α] [Lk α] [So α] {K : PySem.W.Frag} {F H : Hp} {Q : VK} {a : Addr} {xs : List V} {ds : List α} (sF : Same F H) (h : SqL K H a xs) (al : IsAll F xs ds) (q : ∀ (ys : List V) (p : Addr), IsAll F ys (sortD ds) → H p = none → Q (.ref p) (upd H p (.lst ys))) (hd : Dat.dep α ≤ 64 := by decide) : rSortN K [.ref a] H Q := by
  unfold rSortN
  exact ⟨α, inferInstance, inferInstance, inferInstance, F, a, xs, ds, rfl, sF, h, al, hd, q⟩
/-- sorted(d), d a dict keyed by data -/
@[irreducible] def rSortDN (X : Cx) : List V → Hp → VK → Prop := fun vs H Q => ∃ (α : Type) (_ : Dat α) (_ : Lk α) (_ : So α) (F : Hp) (a : Addr) (l : DL α), vs = [.ref a] ∧ Same F H ∧ H a = some (DictD X.prog X.w a l) ∧ KeysD F l ∧ Dat.dep α ≤ 64 ∧
  ∀ (ys : List V) (p : Addr), IsAll F ys (sortD (l.map (·.2.1))) → H p = none → Q (.ref p) (upd H p (.lst ys))
theorem rSortDN.mk {α : Type} [Dat α] [Lk α] [So α] {X : Cx} {P : Program} {w : World} {F H : Hp} {Q : VK} {a : Addr} {l : DL α} (sF : Same F H) (h : H a = some (DictD P w a l)) (k : KeysD F l) (q : ∀ (ys : List V) (p : Addr), IsAll F ys (sortD (l.map (·.2.1))) → H p = none → Q (.ref p) (upd H p (.lst ys))) (hd : Dat.dep α ≤ 64 := by decide) (hP : X.prog = P := by rfl) (hw : X.w = w := by rfl) : rSortDN X [.ref a] H Q := by
  have h' : H a = some (DictD X.prog X.w a l) := by rw [hP, hw]; exact h
  unfold rSortDN
  exact ⟨α, inferInstance, inferInstance, inferInstance, F, a, l, rfl, sF, h', k, hd, q⟩
theorem rel_at : ∀ {xs : List Ne} {ys : List (NestedKey × Addr × Value)}, RelN xs ys → ∀ {j : Nat} {x : Ne}, xs[j]? = some x → ∃ y, ys[j]? = some y ∧ (x.1 = y.1 ∧ x.2.1 = y.2.1 ∧ RelV x.2.2 y.2.2)
  | _, _, .nil, j, x, e => by cases e
  | _, _, .cons h t, 0, x, e => by cases e; exact ⟨_, rfl, h⟩
  | _, _, .cons h t, j + 1, x, e => rel_at t (show _ = some x from e)
theorem vals_refs {α : Type} : ∀ l : DL α, Vals (l.map fun t => V.ref t.1) (l.map fun t => Value.ref t.1)
  | [] => .nil
  | t :: l => .cons rfl (vals_refs l)
theorem acc_eq {P : Program} {w : World} {α : Type} [Dat α] {l : DL α} {ys0 : List (NestedKey × Addr × Value)} {es : Array DictEntry} {acc : Array Value} (rel : RelN (neL l) ys0) (hes : es.toList = ys0.map (entryOfKey (nestedKind P w))) (hn : acc.size = es.size)
    (h : ∀ (i : Nat) (v : Value), acc[i]? = some v → ∃ hi : i < es.size, v = es[i].key) : acc.toList = l.map fun t => Value.ref t.1 := by
  have l0 : ys0.length = l.length := by
    have := Paired.length rel
    unfold neL at this
    rw [List.length_map] at this
    exact this.symm
  have l1 : es.size = l.length := by rw [← Array.length_toList, hes, List.length_map, l0]
  refine List.ext_getElem (by rw [Array.length_toList, hn, l1, List.length_map]) fun j h1 h2 => ?_
  have h1' : j < acc.size := by rw [Array.length_toList] at h1; exact h1
  have h2' : j < l.length := by rw [List.length_map] at h2; exact h2
  have hy : j < ys0.length := by omega
  have z := h j acc[j] (Array.getElem?_eq_getElem h1')
  have jn : (neL l)[j]? = some (keyD (Dat.py l[j].2.1), l[j].1, l[j].2.2) := by
    unfold neL
    rw [List.getElem?_map, List.getElem?_eq_getElem h2']; rfl
  have y := rel_at rel jn
  rw [List.getElem?_eq_getElem hy] at y
  have ry := y.choose_spec
  have ey : ys0[j] = y.choose := Option.some.inj ry.1
  have he : es.toList[j]? = some (entryOfKey (nestedKind P w) ys0[j]) := by rw [hes, List.getElem?_map, List.getElem?_eq_getElem hy]; rfl
  rw [Array.getElem?_toList, Array.getElem?_eq_getElem (by omega)] at he
  rw [Array.getElem_toList, List.getElem_map, z.choose_spec, Option.some.inj he]
  show Value.ref ys0[j].2.1 = Value.ref l[j].1
  rw [ey, ← ry.2.2.1]
theorem sort_new {prog : Program} {w : World} {A : Around} {E : Value → Shared → Prop} {s : Shared} {β : Type} {vs : List Value} {bs : List β} {enc : β → PyData} {R : Value → β → Prop} {a : Addr} {n : Nat} {P : PySem.Fin → Shared → Prop}
    (ho : s.heap.get? a = some (seqObj "list" vs.toArray n)) (e : EachIs R vs bs) (er' : EachIs (fun v b => ∃ as, Reads (sortingHeap s.heap a vs) v (enc b) as) vs bs) (hal : AllAlike (bs.map enc)) (hk : Sortable (bs.map enc)) (hL : vs.length ≤ sizeLine) (hu : ∀ b, b ∈ bs → A.units + (enc b).depth < cLine)
    (h : ∀ out : List Value, out.length = bs.length → EachIs R out (bs.mergeSort (dataLe false enc)) → P (.done (.ret .none)) { s with heap := sortedHeap s.heap a vs out.toArray }) : wpAny (model prog w) A (Builtin.«list.sort» ⟨[.ref a], []⟩) P E s :=
  list_sort_vals (κ := dataKind (sortingHeap s.heap a vs) (bs.map enc)) ho (SortsAt.data (s := { s with heap := sortingHeap s.heap a vs }) (each_map (R := fun v d => ∃ as, Reads (sortingHeap s.heap a vs) v d as) enc er') hal hk (bound_map hu)) hL
    (h _ (by rw [sortVals_length false rfl]; exact e.length) (sortVals_data false e er' hal))
section
variable {X : Cx}
theorem call_sortDN (hc : X.calm = true) (hu : X.A.units + 66 < cLine) : CallR X (.builtin "sorted") (rSortDN X) := by
  intro pins s σ H vs us Q I r h
  unfold rSortDN at h
  obtain ⟨α, i1, i2, i3, F, a, l, rfl, sF, hH, hk, hd, q⟩ := h
  rw [Vals.ref1 r]
  obtain ⟨⟨hz, lo, ys0, rel, o, es, ep, ho, hx, hdat, hes, hnd⟩, _, _⟩ := I.hok a _ hH
  have esz : es.size = (neL l).length := by rw [← Array.length_toList, hes, List.length_map, ← Paired.length rel]
  have raw : s.heap.DictRaw a es ep := ⟨o, ho, hx, hdat⟩
  refine Calls.call_function_entry PyProof.Rows.kind_sorted PyProof.Rows.plain_sorted PyProof.Rows.entry_sorted (PyProof.Rows.args_sorted1 _) ?_
  unfold Builtin.«sorted»
  refine wpAny_bind (m := checkCount "sorted" 1 1 _) (wpAny_pure (wpAny_bind (kdu_collect (A := X.A.in1) (KdlSrc.rawDict lo) (I.ok.hd hc) raw (by rw [esz]; exact hz) fun h' tk acc hk' hacc => ?_)))
  have J : Inv X pins σ H { s with heap := h', toks := tk } := I.kept hk'
  have eacc : acc.toList = l.map fun t => Value.ref t.1 := acc_eq rel hes hacc.1 hacc.2
  have rv : Vals (l.map fun t => V.ref t.1) acc.toList := by rw [eacc]; exact vals_refs l
  have al : IsAll F (l.map fun t => V.ref t.1) (l.map fun t => t.2.1) := ⟨by rw [List.length_map, List.length_map], fun i x y hx hy => by
    rw [List.getElem?_map] at hx hy
    obtain ⟨t, ht, rfl⟩ := Option.map_eq_some_iff.mp hx
    obtain ⟨t', ht', rfl⟩ := Option.map_eq_some_iff.mp hy
    cases ht.symm.trans ht'
    exact hk t (List.mem_of_getElem? ht)⟩
  have hlen : acc.toList.length ≤ sizeLine := by rw [eacc, List.length_map]; unfold neL at hz; rw [List.length_map] at hz; exact hz
  have e := each_of rv al
  have er : EachIs (fun u d => ∃ as, Reads h' u (Dat.py d) as) acc.toList (l.map fun t => t.2.1) := e.mono fun u d ⟨v, r1, i⟩ => Dp.reads J _ v u (Dat.dp (Is.up i sF)) r1
  refine wpAny_bind (wpAny_newList ?_ hlen)
  have hoL : (h'.push (seqObj "list" acc.toList.toArray 0)).get? h'.objs.size = some (seqObj "list" acc.toList.toArray 0) := Heap.get?_push_size _ rfl
  show wpAny _ _ _ _ _ { s with heap := h'.push (seqObj "list" acc.toList.toArray 0), toks := tk }
  have er' : EachIs (fun u d => ∃ as, Reads (sortingHeap (h'.push (seqObj "list" acc.toList.toArray 0)) h'.objs.size acc.toList) u (Dat.py d) as) acc.toList (l.map fun t => t.2.1) := er.mono fun _ _ ⟨as, r⟩ => ⟨as, Reads.keeps (fun b o e => sortingHeap_old (Nat.ne_of_lt (Heap.lt_size e)) (Heap.get?_push_of_some _ e)) r⟩
  refine wpAny_bind (wpAny_holding (wpAny_call_entry PyProof.Rows.slot_list_sort ⟨_, hoL, rfl⟩ PyProof.Rows.entry_list_sort
    (sort_new (s := { s with heap := h'.push (seqObj "list" acc.toList.toArray 0), toks := tk }) (enc := Dat.py) hoL e er' (AllAlike.of Lk.k) ?_ hlen (fun d _ => ?_) fun out ol so => ⟨_, rfl, ?_⟩) (PyProof.Rows.args_list_sort _)))
  · rcases So.k (α := α) with h | h
    · exact Sortable.tuples h
    · exact Sortable.others h
  · have := Dat.depth d
    show X.A.units + 2 + _ < cLine
    omega
  · obtain ⟨ys, r2, al2⟩ := each_back so
    obtain ⟨e', he'⟩ := PyProof.Rows.sortedHeap_at (vs := acc.toList) (out := out.toArray) hoL
    have ly : ys.length ≤ sizeLine := by rw [r2.length, ol, ← e.length]; exact hlen
    refine wpAny_pure ⟨_, rfl, .ref h'.objs.size, upd H h'.objs.size (.lst ys), J.laid (t' := tk) (fun b u e => ?_) (Nat.le_refl _) (show ObjOk X.prog X.w _ _ _ (.lst ys) from ⟨ly, out, e', r2, he'⟩), rfl, q ys _ al2 (J.hok.fresh (Nat.le_refl _))⟩
    have hb : b < h'.objs.size := Heap.lt_size e
    rw [PyProof.Rows.sortedHeap_old (Nat.ne_of_lt hb) (by rw [Heap.size_push]; exact Nat.lt_succ_of_lt hb)]
    exact Heap.get?_push_of_some _ e
end
end
theorem units66 {k : Nat} {A : Around} (r : Room k A) : A.units + 66 < cLine := by have := r.un; omega
/-! ### tuples known to the object; dict(tuple of pairs) -/
section
open PySem.Spec PyProof.Rows
/-- a tuple whose object is known to have no dict of its own -/
def FT (H : Hp) (a : Addr) (xs : List V) : Prop := ∃ o : Obj, H a = some (.frz o (.tup xs)) ∧ o.dict = none
theorem FT.up {H H' : Hp} {a : Addr} {xs : List V} (h : FT H a xs) (s : Same H H') : FT H' a xs := let ⟨o, e, d⟩ := h; ⟨o, s _ _ e, d⟩
theorem FT.sq {K : PySem.W.Frag} {H : Hp} {a : Addr} {xs : List V} (h : FT H a xs) : SqT K H a xs := let ⟨o, e, _⟩ := h; .inl (.inr ⟨o, e⟩)
def tTupF (t : TA) : TE := fun σ H Q => t σ H fun xs H1 => xs.length ≤ sizeLine ∧ ∀ (p : Addr) (o : Obj), o.dict = none → H1 p = none → Q (.ref p) (upd H1 p (.frz o (.tup xs)))
section
variable {X : Cx} {es : List PySem.Expr} {t : TA} {pos : Pos}
theorem pe_tupF {x1} (h : PA X es t) : PE X (.Tuple es x1 pos) (tTupF t) := by
  refine ⟨fun pins s σ H Q I hq => ?_⟩
  refine wpAny_Tuple_spliced (thn (h.run pos pins s σ H _ I hq) fun us s1 ⟨xs, H1, I1, r, z, q⟩ => ⟨by rw [← r.length]; exact z, ?_⟩)
  have hf : H1 s1.heap.objs.size = none := I1.hok.fresh (Nat.le_refl _)
  refine ⟨.ref s1.heap.objs.size, upd H1 s1.heap.objs.size (.frz { cls := .type "tuple", data := .seq us.toArray } (.tup xs)), I1.laid (t' := s1.toks) (fun b u e => Heap.get?_push_of_some _ e) (Nat.le_refl _) ?_, rfl, q _ _ rfl hf⟩
  exact ⟨Heap.get?_push_size _ rfl, z, us, r, ⟨_, Heap.get?_push_size _ rfl, rfl, _, rfl⟩⟩
/-- tuple(xs) of a list -/
@[irreducible] def rTupF (K : PySem.W.Frag) : List V → Hp → VK → Prop := fun xs H Q => ∃ p ys, xs = [.ref p] ∧ SqL K H p ys ∧ ∀ (l : Addr) (o : Obj), o.dict = none → H l = none → Q (.ref l) (upd H l (.frz o (.tup ys)))
theorem rTupF.mk {K : PySem.W.Frag} {H : Hp} {Q : VK} {p : Addr} {ys : List V} (h : SqL K H p ys) (q : ∀ (l : Addr) (o : Obj), o.dict = none → H l = none → Q (.ref l) (upd H l (.frz o (.tup ys)))) : rTupF K [.ref p] H Q := by
  unfold rTupF; exact ⟨p, ys, rfl, h, q⟩
theorem call_tupF : CallR X (.type "tuple") (rTupF X.K) := by
  intro pins s σ H xs us Q I r h
  unfold rTupF at h
  obtain ⟨p, ys, rfl, hq, q⟩ := h
  rw [Vals.ref1 r]
  obtain ⟨its, r', pl, hz⟩ := I.list hq
  have hlen := r'.length
  refine call_tuple_list pl.isList (fun h' kp => ?_) (by simp only [List.size_toArray]; omega)
  have I1 : Inv X pins σ H { s with heap := h' } := I.kept (t' := s.toks) kp
  have I2 : Inv X pins σ (upd H h'.objs.size (.frz { cls := .type "tuple", data := .seq its.toArray } (.tup ys))) { s with heap := h'.push { cls := .type "tuple", data := .seq its.toArray } } :=
    I1.laid (t' := s.toks) (fun b o e => Heap.get?_push_of_some _ e) (Nat.le_refl _) (show ObjOk X.prog X.w _ _ _ (.frz _ (.tup ys)) from ⟨Heap.get?_push_size _ rfl, hz, its, r', IsTup.new _ _⟩)
  exact ⟨.ref h'.objs.size, _, I2, rfl, q _ _ rfl (I1.hok.fresh (Nat.le_refl _))⟩
theorem pairsV {pins : List (Addr × Obj)} {σ : L2.St} {H : Hp} {s : Shared} (I : Inv X pins σ H s) : ∀ {ps : List Addr} {kvs : List (Key × V)}, Paired (fun p kv => SqT X.K H p [kV kv.1, kv.2]) ps kvs →
    ∃ (prs : List (Key × Value)) (pv : List (Value × Value)), KV kvs prs ∧ prs.length = ps.length ∧ pv.length = ps.length ∧ ∀ (j : Nat) (k v : Value), pv[j]? = some (k, v) → ∃ (b : Addr) (q : Key), ps[j]? = some b ∧ IsTup s.heap b #[k, v] ∧ prs[j]? = some (q, v) ∧ keyIs q k = true
  | _, _, .nil => ⟨[], [], .nil, rfl, rfl, fun j k v e => by simp at e⟩
  | _, _, .cons (a := p) (b := kv) h t => by
    obtain ⟨prs, pv, r, hl, hl2, hp⟩ := pairsV I t
    obtain ⟨its, rv, ht, _⟩ := I.tuple h
    obtain ⟨u, y, ei, ru, ry⟩ := vals2 rv
    subst ei
    refine ⟨(kv.1, y) :: prs, (u, y) :: pv, .cons ⟨rfl, ry⟩ r, by rw [List.length_cons, List.length_cons, hl], by rw [List.length_cons, List.length_cons, hl2], fun j k v e => ?_⟩
    cases j with
    | zero =>
      have e' : (u, y) = (k, v) := Option.some.inj e
      cases e'
      exact ⟨p, kv.1, rfl, ht, rfl, kV_is (P := X.prog) (w := X.w) ru⟩
    | succ j =>
      obtain ⟨b, q, e1, e2, e3, e4⟩ := hp j k v (by simpa using e)
      exact ⟨b, q, by simpa using e1, e2, by simpa using e3, e4⟩
/-- dict(t), t a tuple of pairs -/
@[irreducible] def rDictT (K : PySem.W.Frag) : List V → Hp → VK → Prop := fun xs H Q => ∃ (a : Addr) (ps : List Addr) (kvs : List (Key × V)), xs = [.ref a] ∧ FT H a (ps.map V.ref) ∧ Paired (fun p kv => SqT K H p [kV kv.1, kv.2]) ps kvs ∧ ∀ p, H p = none → Q (.ref p) (upd H p (.dK (mergeK [] kvs)))
theorem rDictT.mk {K : PySem.W.Frag} {H : Hp} {Q : VK} {a : Addr} {ps : List Addr} {kvs : List (Key × V)} (h : FT H a (ps.map V.ref)) (hp : Paired (fun p kv => SqT K H p [kV kv.1, kv.2]) ps kvs) (q : ∀ p, H p = none → Q (.ref p) (upd H p (.dK (mergeK [] kvs)))) : rDictT K [.ref a] H Q := by
  unfold rDictT; exact ⟨a, ps, kvs, rfl, h, hp, q⟩
theorem call_dictT (hcalm : X.calm = true) : CallR X (.type "dict") (rDictT X.K) := by
  intro pins s σ H xs us Q I r q
  unfold rDictT at q
  obtain ⟨a, ps, kvs, rfl, ⟨o, hH, hdn⟩, hp, q⟩ := q
  rw [Vals.ref1 r]
  obtain ⟨ho, hz, its, rv, o', ho', hc', n, hdat⟩ := I.hok a _ hH
  cases ho.symm.trans ho'
  have ei := refs_at rv
  subst ei
  rw [List.length_map] at hz
  obtain ⟨prs, pv, rel, hl, hl2, hpr⟩ := pairsV I hp
  have pl : PlainSeq "tuple" s.heap a (ps.map Value.ref).toArray := ⟨o, n, ho, hc', hdn, hdat⟩
  have pit : PairItems s.heap (ps.map Value.ref).toArray (fun j => (ps[j]?).getD 0) pv := ⟨by rw [List.size_toArray, List.length_map, hl2], fun j k v e => by
    obtain ⟨b, q', e1, e2, _, _⟩ := hpr j k v e
    refine ⟨?_, .inl ?_⟩
    · show (ps.map Value.ref).toArray[j]? = some (Value.ref ((ps[j]?).getD 0))
      rw [e1, List.getElem?_toArray, List.getElem?_map, e1]; rfl
    · show s.heap.IsTuple ((ps[j]?).getD 0) #[k, v]
      rw [e1]
      exact e2⟩
  refine PySem.call_dict_pairs (knd := mixKind X.prog X.w) (kvs := prs) (PairArg.tuple a _ _ pv) (I.ok.hd hcalm) ⟨pl, pit⟩ ⟨by rw [hl, hl2], fun i key v hrel => ?_⟩ (by rw [hl2]; exact hz) fun h' tk hd' k => ?_
  · obtain ⟨b, q', _, _, e3, e4⟩ := hpr i key v hrel
    exact ⟨q', e3, e4⟩
  · have hm : (s.heap.objs.size == sysModules) = false := beq_eq_false_iff_ne.mpr (Nat.ne_of_gt I.big)
    have hlen : (mergeK [] kvs).length ≤ sizeLine := by
      refine Nat.le_trans (length_mergeK kvs []) ?_
      rw [List.length_nil, Nat.zero_add, rel.length, hl]
      exact hz
    exact ⟨.ref s.heap.objs.size, upd H s.heap.objs.size (.dK (mergeK [] kvs)), I.laid (t' := tk) (fun b o e => k b o (fun z => nomatch z) e) (Nat.le_refl _) (show ObjOk X.prog X.w _ _ _ (.dK (mergeK [] kvs)) from ⟨hlen, hm, merged [] prs, KV.merge rel .nil, hd'⟩), rfl, q _ (I.hok.fresh (Nat.le_refl _))⟩
end
/-- a tuple of data, its object known -/
structure PTup (α : Type) where
  l : List α
  deriving DecidableEq
instance {α : Type} [Dat α] : Dat (PTup α) where
  rep := fun H v l => ∃ a xs, v = .ref a ∧ FT H a xs ∧ IsAll H xs l.l
  mono := fun s h => by
    obtain ⟨a, xs, e, h, i⟩ := h
    exact ⟨a, xs, e, h.up s, IsAll.up i s⟩
  py := fun l => .tuple (l.l.map Dat.py)
  dp := fun h => by
    obtain ⟨a, xs, rfl, h, i⟩ := h
    exact .tup h.sq (dp_all i)
  can := fun d => can_all d.l
  dep := Dat.dep α + 1
  depth := fun d => Nat.succ_le_succ (depth_all d.l)
  eqv := fun a b => by
    rw [PyData.eqv, eqv_all]
    obtain ⟨a⟩ := a; obtain ⟨b⟩ := b
    simp
instance {α : Type} [Dat α] [Kd α] : Kd (PTup α) := ⟨fun d => by show kable (.tuple (d.l.map Dat.py)) = true; rw [kable]; exact kd_all d.l⟩
instance {α : Type} [Dat α] [Lk α] : Lk (PTup α) := ⟨fun a b => by show PySem.W.alike (.tuple (a.l.map Dat.py)) (.tuple (b.l.map Dat.py)) = true; rw [PySem.W.alike]; exact lk_all a.l b.l⟩
instance {α : Type} [Dat α] : Big (PTup α) := ⟨fun d => .inl ⟨_, rfl⟩⟩
end
/-! ### dicts of ints compared, alone and behind two ints in a tuple -/
def sameD (l m : List PI) : Bool := l.length == m.length && l.all fun p => decide (look m p.a = some p.b)
theorem nd_sub_len {α : Type} [DecidableEq α] : ∀ {l m : List α}, l.Nodup → (∀ x ∈ l, x ∈ m) → l.length ≤ m.length
  | [], _, _, _ => Nat.zero_le _
  | x :: l, m, h, s => by
    have hx := s x List.mem_cons_self
    have h' := List.nodup_cons.mp h
    have k := nd_sub_len (l := l) (m := m.erase x) h'.2 fun y hy => (List.mem_erase_of_ne fun e => h'.1 (by rw [← e]; exact hy)).mpr (s y (List.mem_cons_of_mem _ hy))
    rw [List.length_erase_of_mem hx] at k
    have := List.length_pos_of_mem hx
    rw [List.length_cons]
    omega
theorem sameD_iff {l m : List PI} (hl : Nd l) (hm : Nd m) : sameD l m = true ↔ ∀ x, look l x = look m x := by
  unfold sameD
  rw [Bool.and_eq_true, beq_iff_eq, List.all_eq_true]
  constructor
  · rintro ⟨e, h⟩ x
    have sub : ∀ y ∈ l.map (·.a), y ∈ m.map (·.a) := fun y hy => by
      obtain ⟨p, hp, rfl⟩ := List.mem_map.mp hy
      have := of_decide_eq_true (h p hp)
      exact List.mem_map.mpr ⟨_, mem_look this, rfl⟩
    cases f : look l x with
    | some v => exact (of_decide_eq_true (h ⟨x, v⟩ (mem_look f))).symm
    | none =>
      cases g : look m x with
      | none => rfl
      | some v =>
        exfalso
        have hx : x ∈ m.map (·.a) := List.mem_map.mpr ⟨_, mem_look g, rfl⟩
        have nx := look_none.mp f
        have k := nd_sub_len (l := x :: l.map fun p : PI => p.a) (m := m.map fun p : PI => p.a) (List.nodup_cons.mpr ⟨nx, hl⟩) fun y hy => by
          rcases List.mem_cons.mp hy with rfl | hy
          · exact hx
          · exact sub y hy
        rw [List.length_cons, List.length_map, List.length_map] at k
        omega
  · intro h
    have a : ∀ {l m : List PI}, Nd l → (∀ x, look l x = look m x) → ∀ y ∈ l.map (·.a), y ∈ m.map (·.a) := fun {l m} hl h y hy => by
      obtain ⟨p, hp, rfl⟩ := List.mem_map.mp hy
      have := look_mem hl hp
      rw [h] at this
      exact List.mem_map.mpr ⟨_, mem_look this, rfl⟩
    refine ⟨?_, fun p hp => decide_eq_true (by rw [← h]; exact look_mem hl hp)⟩
    have k1 := nd_sub_len hl (a hl h)
    have k2 := nd_sub_len hm (a hm fun x => (h x).symm)
    rw [List.length_map, List.length_map] at k1 k2
    omega
section
open PySem.Spec PyProof.Rows
variable {X : Cx}
def eK (l m : List PI) : Key → Bool
  | .inl i => decide (look l i = look m i)
  | .inr _ => false
theorem kv_mem : ∀ {l : List PI} {va : List (Key × Value)}, KV (dI l) va → ∀ {k : Key} {v : Value}, (k, v) ∈ va → ∃ p ∈ l, k = Sum.inl p.a ∧ ∃ t, v = .int p.b t
  | [], va, r, k, v, h => by
    cases r
    cases h
  | p :: l, va, r, k, v, h => by
    cases r with
    | @cons _ q _ qs hr t =>
      obtain ⟨h1, h2⟩ := hr
      rcases List.mem_cons.mp h with e | h
      · subst e
        exact ⟨p, List.mem_cons_self, h1.symm, h2⟩
      · obtain ⟨p', m, e, f⟩ := kv_mem (l := l) t h
        exact ⟨p', List.mem_cons_of_mem _ m, e, f⟩
theorem kv_all (f : Key → Bool) : ∀ {l : List PI} {va : List (Key × Value)}, KV (dI l) va → (va.all fun p => f p.1) = l.all fun p => f (Sum.inl p.a)
  | [], va, r => by
    cases r
    rfl
  | p :: l, va, r => by
    cases r with
    | @cons _ q _ qs hr t =>
      obtain ⟨h1, _⟩ := hr
      have h1 : Sum.inl p.a = q.1 := h1
      rw [List.all_cons, List.all_cons, kv_all f (l := l) t, ← h1]
theorem kv_at {m : List PI} {vb : List (Key × Value)} (r : KV (dI m) vb) (i : Int) : (look m i = none ∧ valueAt vb (Sum.inl i : Key) = none) ∨ ∃ z t, look m i = some z ∧ valueAt vb (Sum.inl i : Key) = some (.int z t) := by
  have h := r.val (Sum.inl i)
  rw [dI_val] at h
  cases e : look m i with
  | none =>
    rw [e] at h
    cases f : valueAt vb (Sum.inl i : Key) with
    | none => exact .inl ⟨rfl, rfl⟩
    | some y => rw [f] at h; cases h
  | some z =>
    rw [e] at h
    cases f : valueAt vb (Sum.inl i : Key) with
    | none => rw [f] at h; cases h
    | some y =>
      rw [f] at h
      obtain ⟨t, rfl⟩ : ∃ t, y = Value.int z t := h
      exact .inr ⟨z, t, rfl, rfl⟩
theorem leaf_int {s : Shared} {n : Nat} {i j : Int} {t u : Tok} : PySem.W.EqTree X.prog X.w s n (.int i t) (.int j u) (decide (i = j)) := by
  refine .leaf fun A _ => ?_
  have e : decide (i = j) = (i == j) := by
    rw [Bool.eq_iff_iff, decide_eq_true_iff, beq_iff_eq]
  rw [e]
  exact SeqAt.EqAt.int_int _ _ _ _
theorem dict_leaf {s : Shared} {l m : List PI} {va vb : List (Key × Value)} (nd : Nd l) (ra : KV (dI l) va) (rb : KV (dI m) vb) : ∀ k v y, (k, v) ∈ va → valueAt vb k = some y → PySem.W.EqTree X.prog X.w s 0 v y (eK l m k) := by
  intro k v y hm hv
  obtain ⟨p, hp, rfl, t, rfl⟩ := kv_mem ra hm
  rcases kv_at rb p.a with ⟨_, f⟩ | ⟨z, u, e, f⟩
  · rw [f] at hv; cases hv
  · rw [f] at hv
    cases hv
    have e2 : eK l m (Sum.inl p.a) = decide (p.b = z) := by
      show decide (look l p.a = look m p.a) = _
      rw [look_mem nd hp, e, Bool.eq_iff_iff, decide_eq_true_iff, decide_eq_true_iff]
      exact ⟨Option.some.inj, fun h => by rw [h]⟩
    rw [e2]
    exact leaf_int
theorem same_all {l m : List PI} {va vb : List (Key × Value)} (nd : Nd l) (ra : KV (dI l) va) (rb : KV (dI m) vb) : (va.length == vb.length && va.all fun p => (valueAt vb p.1).isSome && eK l m p.1) = sameD l m := by
  have el : va.length = l.length := by rw [← ra.length]; unfold dI; rw [List.length_map]
  have em : vb.length = m.length := by rw [← rb.length]; unfold dI; rw [List.length_map]
  unfold sameD
  rw [el, em]
  have e := kv_all (fun k => (valueAt vb k).isSome && eK l m k) ra
  rw [e]
  congr 1
  rw [Bool.eq_iff_iff, List.all_eq_true, List.all_eq_true]
  have key : ∀ p ∈ l, ((valueAt vb (Sum.inl p.a : Key)).isSome && eK l m (Sum.inl p.a)) = decide (look m p.a = some p.b) := fun p hp => by
    show ((valueAt vb (Sum.inl p.a : Key)).isSome && decide (look l p.a = look m p.a)) = _
    rw [look_mem nd hp]
    rcases kv_at rb p.a with ⟨e, f⟩ | ⟨z, u, e, f⟩
    · rw [e, f]; rfl
    · rw [e, f]
      show (true && decide (some p.b = some z)) = decide (some z = some p.b)
      rw [Bool.true_and, Bool.eq_iff_iff, decide_eq_true_iff, decide_eq_true_iff]
      exact eq_comm
  exact ⟨fun h p hp => by rw [← key p hp]; exact h p hp, fun h p hp => by rw [key p hp]; exact h p hp⟩
/-- d == e, dicts of ints -/
def rEqDi : R2 := fun x y H Q => ∃ a b l m, x = .ref a ∧ y = .ref b ∧ H a = some (.dK (dI l)) ∧ H b = some (.dK (dI m)) ∧ Nd l ∧ Q (.bl (sameD l m)) H
theorem op_eqDi (hu : X.A.units + 64 < cLine) : OpR X (compareOp .Eq) rEqDi := by
  intro pins s σ H x y v u Q I rx ry h
  obtain ⟨a, b, l, m, rfl, rfl, ea, eb, nd, q⟩ := h
  obtain rfl : v = Value.ref a := rx
  obtain rfl : u = Value.ref b := ry
  obtain ⟨_, ya, va, ra, da⟩ := (show ObjOk X.prog X.w H s.heap a (.dK (dI l)) from I.hok a _ ea)
  obtain ⟨_, yb, vb, rb, db⟩ := (show ObjOk X.prog X.w H s.heap b (.dK (dI m)) from I.hok b _ eb)
  exact PySem.W.eq_dictsT (knd := mixKind X.prog X.w) (n := 0) (e := eK l m) ya yb da db (dict_leaf nd ra rb) (by omega) (fin_bl I q (same_all nd ra rb).symm)
end
/-! ### dicts keyed by data: displays of one key, walks of the keys, list(d); d.copy() of ints -/
section
open PySem.Spec PyProof.Rows
section
variable {X : Cx} {pins : List (Addr × Obj)} {σ : L2.St} {H : Hp} {s : Shared} {d : Addr} {o : Obj}
theorem inv_frzN {xs : List Ne} (I : Inv X pins σ H s) (h : H d = some (.frz o (DictN X.prog X.w d xs))) :
    (d == sysModules) = false ∧ s.heap.get? d = some o ∧ o.ExactDict ∧ ∃ (es : Array DictEntry) (ep : Nat), o.data = .dict es ep ∧ es.size = xs.length ∧
      ∀ (i : Nat) (x : Ne), xs[i]? = some x → ∃ en : DictEntry, es[i]? = some en ∧ en.key = .ref x.2.1 := by
  obtain ⟨hd, ⟨z, hs, ys, rel, o', es, ep, ho, hx, hdt, he, hnd⟩, _⟩ := I.hok d _ h
  rw [hd] at ho
  cases ho
  refine ⟨hs, hd, hx, es, ep, hdt, ?_, fun i x e => ?_⟩
  · rw [← Array.length_toList, he, List.length_map, ← Paired.length rel]
  · obtain ⟨y, hy, e1, e2, e3⟩ := rel_at rel e
    refine ⟨entryOfKey (nestedKind X.prog X.w) y, ?_, ?_⟩
    · rw [← Array.getElem?_toList, he, List.getElem?_map, hy]; rfl
    · show Value.ref y.2.1 = _
      rw [e2]
end
def ItN (P : Program) (w : World) (d : Addr) (o : Obj) (xs : List Ne) : It :=
  ⟨fun i H => H d = some (.frz o (DictN P w d xs)) ∧ i < xs.length, fun i H x H' => H' = H ∧ ∃ t, xs[i]? = some t ∧ x = .ref t.2.1, fun i H => H d = some (.frz o (DictN P w d xs)) ∧ xs.length ≤ i⟩
theorem walk_keysN {P : Program} {w : World} {d : Addr} {o : Obj} {xs : List Ne} : Walk (ItN P w d o xs) xs.length (fun H => H d = some (.frz o (DictN P w d xs))) (fun i H x H' => H' = H ∧ ∃ t, xs[i]? = some t ∧ x = .ref t.2.1) :=
  ⟨fun _ _ hi q => ⟨q, hi⟩, fun _ q => ⟨q, Nat.le_refl _⟩, fun _ _ _ _ _ _ y => y⟩
theorem turn_keysN {P : Program} {w : World} {K : PySem.W.Frag} {tg : Expr} {d : Addr} {o : Obj} {es : Array DictEntry} {ep : Nat} {xs : List Ne} (it : Addr) (hod : o.data = .dict es ep) : Turn P w K tg (ItN P w d o xs) [it] it (fun i h => h.IsKeyIter it d i xs.length ep) where
  mem := by simp
  obj := fun i h st b hb => by
    have e : b = it := by simpa using hb
    subst e
    obtain ⟨oi, e, c, dd⟩ := st
    exact ⟨oi, e, fun v z => by rw [dd] at z; cases z⟩
  keep := fun i h h' st k => st.at fun oi e => k it (by simp) oi e
  item := by
    intro X hP hw hK hc i pins s σ H E I hf st hg
    subst hP hw hK
    obtain ⟨hd, hi⟩ := hg
    obtain ⟨f0, f1, f2, f3, f4, f5⟩ := hf it (by simp)
    obtain ⟨hs, hgd, hx, es', ep', hdt, hsz, ent⟩ := inv_frzN I hd
    obtain ⟨rfl, rfl⟩ := dict_ep hod hdt
    obtain ⟨en, hen, hkey⟩ := ent i xs[i] (List.getElem?_eq_getElem hi)
    refine next_key_item st hgd hdt hsz hen fun h' st' sb => ?_
    have I1 : Inv X pins σ H { s with heap := h' } := I.turned (t' := s.toks) (fun b ob hb e => (sb.2 b hb).trans e) f0 f1 f3 f4 f5
    obtain ⟨oi, e, c, dd⟩ := id st'
    exact ⟨en.key, rfl, go_of (s := { s with heap := h' }) e c dd (by decide) ⟨.ref xs[i].2.1, H, I1, hkey, ⟨rfl, xs[i], List.getElem?_eq_getElem hi, rfl⟩, st', fun b hb => (hf b hb).1⟩⟩
  done := by
    intro X hP hw hK hc i pins s σ H E I hf st hg
    subst hP hw hK
    obtain ⟨hd, hi⟩ := hg
    obtain ⟨f0, f1, f2, f3, f4, f5⟩ := hf it (by simp)
    obtain ⟨hs, hgd, hx, es', ep', hdt, hsz, ent⟩ := inv_frzN I hd
    obtain ⟨rfl, rfl⟩ := dict_ep hod hdt
    exact next_key_end (I.ok.hd hc) st hgd hdt hsz hi fun h' eb => ⟨rfl, I.turned (t' := s.toks) (fun b ob hb e => eb b ob hb e) f0 f1 f3 f4 f5⟩
  self := fun A i s Q E st h => wpAny_pyIter_keyiter st h
/-- for x in d, d keyed by data and locked -/
def iKeysN (P : Program) (w : World) (td : TE) : TI := fun σ H R => td σ H fun x H1 => ∃ d o xs, x = .ref d ∧ H1 d = some (.frz o (DictN P w d xs)) ∧ R (ItN P w d o xs) H1
section
variable {X : Cx} {tg e k v : PySem.Expr} {pos : Pos} {td tk tv : TE}
theorem pi_keysN (he : PE X e td) : L2.PI X tg e (iKeysN X.prog X.w td) := by
  refine ⟨fun pins s σ H R I h => ?_⟩
  refine thn (he.run pins s σ H _ I h) fun u s1 ⟨x, H1, I1, rx, d, o, xs, ex, hd, q⟩ => ?_
  subst ex
  obtain rfl : u = Value.ref d := rx
  obtain ⟨hs, hgd, hx, es, ep, hdt, hsz, ent⟩ := inv_frzN I1 hd
  refine iter_keys hs hgd hx hdt (pi_one (tk := s1.toks) I1 _ (turn_keysN _ hdt) ⟨_, Heap.get?_push_size _ rfl, rfl, ?_⟩ q)
  rw [hsz] <;> rfl
/-- {k: v}, k of data -/
def tDispN (X : Cx) (tk tv : TE) : TE := fun σ H Q => ∀ p, H p = none → tk σ (upd H p (DictN X.prog X.w p [])) fun y H1 => tv σ H1 fun v H2 => H2 p = some (DictN X.prog X.w p []) ∧ ∃ b d, y = .ref b ∧ Dp X.K H2 y d ∧ kable d = true ∧ d.depth ≤ 8 ∧ Q (.ref p) (upd H2 p (DictN X.prog X.w p [(keyD d, b, v)]))
theorem pe_dispN (hu : X.A.units + 9 < cLine) (hk : PE X k tk) (hv : PE X v tv) : PE X (.Dict [some k] [v] pos) (tDispN X tk tv) := ⟨fun pins s σ H Q I h => by
  have hn := I.hok.fresh (Nat.le_refl s.heap.objs.size)
  have hbig : (s.heap.objs.size == sysModules) = false := beq_eq_false_iff_ne.mpr (Ne.symm (Nat.ne_of_lt I.big))
  have I1 := I.laid (a := s.heap.objs.size) (o := DictN X.prog X.w s.heap.objs.size []) (h' := s.heap.push { cls := .type "dict", data := .dict #[] }) (t' := s.toks) (fun _ _ q => Heap.get?_push_of_some _ q) (Nat.le_refl _)
    (NOk.obj ⟨Nat.zero_le _, hbig, [], .nil, _, #[], 0, Heap.get?_push_size _ rfl, ⟨rfl, rfl, rfl⟩, rfl, rfl, List.nodup_nil⟩)
  have e0 : eval (.Dict [some k] [v] pos) X.env = (do standAt pos; let d ← subDict [(eval k X.env, (do let x ← eval v X.env; standAt pos; pure x : Sem Value))]; pure (Value.ref d) : Sem Value) := by
    rw [arm_eval_Dict]
    show (do standAt pos; dictDisplay ([(eval k X.env, (do let x ← eval v X.env; standAt pos; pure x : Sem Value))].map fun p => (some p.1, p.2)) : Sem Value) = _
    rw [dictDisplay_pairs _ (by simp) (by simp)]
  rw [e0]
  refine wpAny_bind (wpAny_standAt (wpAny_bind (wpAny_subDictH (knd := nestedKind X.prog X.w) (show X.A.units + 8 < cLine by omega) (by simp) ?_)))
  unfold evalPairs
  refine wpAny_bind (thn (hk.run pins _ σ _ _ I1 (h _ hn)) fun kv s1 ⟨y, H1, J1, ry, q1⟩ => ?_)
  refine wpAny_bind (wpAny_holding (wpAny_bind (thn (hv.run pins s1 σ H1 _ J1 q1) fun vv s2 ⟨v', H2, J2, rv, e, b, d, ey, hd, kd, dd, q2⟩ => wpAny_bind (wpAny_standAt (wpAny_pure ?_)))))
  subst ey
  obtain rfl : kv = Value.ref b := ry
  unfold evalPairs
  refine wpAny_bind (wpAny_holding (wpAny_pure (wpAny_pure ?_)))
  obtain ⟨z, zd, ys, rel, D⟩ := n_of J2 e (fun t m => nomatch m)
  cases rel
  refine ⟨[(keyD d, b, vv)], ⟨rfl, rfl, ⟨key_at J2 d _ _ kd hd rfl, Nat.le_trans (keyD_depth d) dd⟩, trivial⟩, D, fun h' tk D' hs => wpAny_pure ⟨.ref s.heap.objs.size, _, ?_, rfl, q2⟩⟩
  obtain ⟨q, es, ep, hq, h2, h3, h4, _, h5⟩ := D'
  exact d_write J2 (by rw [e]; exact True.intro) hs ⟨q, hq⟩ (NOk.obj ⟨by rw [List.length_singleton, sizeLine_eq]; omega, zd, _, .cons ⟨rfl, rfl, rv⟩ .nil, q, es, ep, hq, h2, h3, h4, h5⟩)⟩
end
section
variable {X : Cx}
theorem vals_refsN : ∀ l : List Ne, Vals (l.map fun t => V.ref t.2.1) (l.map fun t => Value.ref t.2.1)
  | [] => .nil
  | t :: l => .cons rfl (vals_refsN l)
@[irreducible] def rListDN (X : Cx) : List V → Hp → VK → Prop := fun xs H Q => ∃ (a : Addr) (l : List Ne), xs = [.ref a] ∧ H a = some (DictN X.prog X.w a l) ∧ ∀ p, H p = none → Q (.ref p) (upd H p (.lst (l.map fun t => .ref t.2.1)))
theorem rListDN.mk {X : Cx} {P : Program} {w : World} {H : Hp} {Q : VK} {a : Addr} {l : List Ne} (h : H a = some (DictN P w a l)) (q : ∀ p, H p = none → Q (.ref p) (upd H p (.lst (l.map fun t => .ref t.2.1)))) (hP : X.prog = P := by rfl) (hw : X.w = w := by rfl) : rListDN X [.ref a] H Q := by
  subst hP hw
  unfold rListDN
  exact ⟨a, l, rfl, h, q⟩
theorem call_listDN (hcalm : X.calm = true) : CallR X (.type "list") (rListDN X) := by
  intro pins s σ H xs us Q I r q
  unfold rListDN at q
  obtain ⟨a, l, ex, hd, q⟩ := q
  subst ex
  obtain ⟨u, eu, rx⟩ := vals1 r
  subst eu
  cases rx
  obtain ⟨⟨hz, lo, ys0, rel, o, es, ep, ho, hx, hdat, hes, hnd⟩, _, _⟩ := (show ObjOk X.prog X.w H s.heap a (DictN X.prog X.w a l) from I.hok a _ hd)
  have esz : es.size = l.length := by rw [← Array.length_toList, hes, List.length_map, ← Paired.length rel]
  have raw : s.heap.DictRaw a es ep := ⟨o, ho, hx, hdat⟩
  refine PySem.W.kdl_call (KdlSrc.rawDict lo) (I.ok.hd hcalm) raw (by rw [esz]; exact hz) fun h' tk acc c' hk hD hacc => ?_
  have hv : Vals (l.map fun t => V.ref t.2.1) acc.toList := by
    have e1 : acc.toList = l.map fun t => Value.ref t.2.1 := by
      refine List.ext_getElem (by rw [Array.length_toList, hacc.1, esz, List.length_map]) fun j h1 h2 => ?_
      have h1' : j < acc.size := by rw [Array.length_toList] at h1; exact h1
      have h2' : j < l.length := by rw [List.length_map] at h2; exact h2
      obtain ⟨hi, z⟩ := hacc.2 j acc[j] (Array.getElem?_eq_getElem h1')
      obtain ⟨y, hy, _, e2, _⟩ := rel_at rel (List.getElem?_eq_getElem h2')
      have q1 : es[j]? = some (entryOfKey (nestedKind X.prog X.w) y) := by
        rw [← Array.getElem?_toList, hes, List.getElem?_map, hy]; rfl
      rw [Array.getElem?_eq_getElem hi] at q1
      rw [Array.getElem_toList, z, Option.some.inj q1, List.getElem_map, e2]
      rfl
    rw [e1]
    exact vals_refsN l
  exact ⟨.ref s.heap.objs.size, upd H s.heap.objs.size (.lst (l.map fun t => .ref t.2.1)), I.laid (t' := tk) hk (Nat.le_refl _)
    (show ObjOk X.prog X.w _ _ _ (.lst (l.map fun t => .ref t.2.1)) from ⟨by rw [List.length_map]; exact hz, acc.toList, c', hv, by rw [Array.toArray_toList]; exact hD⟩), rfl, q _ (I.hok.fresh (Nat.le_refl _))⟩
end
end
def top (i : Nat) : Stmt := PySem.Challenge.pw_endnever_k57_trees.main.body.getD i (.Pass ⟨0, 0, 0, 0⟩)
abbrev s_L_mixed : Stmt := top 65
abbrev N_L_mixed : List Str := ["_law_cell", "_law_k", "_law_rest", "_law_number"]
theorem sc_L_mixed : FnScope ["_law_cell", "_law_k", "_law_rest", "_law_number"] ["_law_cell", "_law_k"] (defScope s_L_mixed) := ⟨rfl, rfl, rfl, by decide +kernel, rfl, by decide +kernel, by decide +kernel⟩
abbrev s_L_purse : Stmt := top 66
abbrev N_L_purse : List Str := ["_law_script", "_law_cells", "_law_number", "_law_k"]
theorem sc_L_purse : FnScope ["_law_script", "_law_cells", "_law_number", "_law_k"] ["_law_script"] (defScope s_L_purse) := ⟨rfl, rfl, rfl, by decide +kernel, rfl, by decide +kernel, by decide +kernel⟩
abbrev s_L_draw : Stmt := top 67
abbrev N_L_draw : List Str := ["_law_purse_here", "_law_out_of", "_law_drawn"]
theorem sc_L_draw : FnScope ["_law_purse_here", "_law_out_of", "_law_drawn"] ["_law_purse_here", "_law_out_of"] (defScope s_L_draw) := ⟨rfl, rfl, rfl, by decide +kernel, rfl, by decide +kernel, by decide +kernel⟩
abbrev s_must_size : Stmt := top 53
abbrev N_must_size : List Str := ["rows", "signs"]
theorem sc_must_size : FnScope ["rows", "signs"] ["rows", "signs"] (defScope s_must_size) := ⟨rfl, rfl, rfl, by decide +kernel, rfl, by decide +kernel, by decide +kernel⟩
abbrev s_empty_machine : Stmt := top 54
abbrev N_empty_machine : List Str := ["rows", "signs", "row"]
theorem sc_empty_machine : FnScope ["rows", "signs", "row"] ["rows", "signs"] (defScope s_empty_machine) := ⟨rfl, rfl, rfl, by decide +kernel, rfl, by decide +kernel, by decide +kernel⟩
abbrev s_is_entry : Stmt := top 7
abbrev N_is_entry : List Str := ["entry", "rows", "signs"]
theorem sc_is_entry : FnScope ["entry", "rows", "signs"] ["entry", "rows", "signs"] (defScope s_is_entry) := ⟨rfl, rfl, rfl, by decide +kernel, rfl, by decide +kernel, by decide +kernel⟩
abbrev s_is_machine : Stmt := top 8
abbrev N_is_machine : List Str := ["machine", "rows", "signs", "row", "entry"]
theorem sc_is_machine : FnScope ["machine", "rows", "signs", "row", "entry"] ["machine"] (defScope s_is_machine) := ⟨rfl, rfl, rfl, by decide +kernel, rfl, by decide +kernel, by decide +kernel⟩
abbrev s_must_machine : Stmt := top 9
abbrev N_must_machine : List Str := ["machine"]
theorem sc_must_machine : FnScope ["machine"] ["machine"] (defScope s_must_machine) := ⟨rfl, rfl, rfl, by decide +kernel, rfl, by decide +kernel, by decide +kernel⟩
abbrev s_Goer_init : Stmt := inClass (top 11) 0
abbrev N_Goer_init : List Str := ["self", "machine", "setup"]
theorem sc_Goer_init : FnScope ["self", "machine", "setup"] ["self", "machine", "setup"] (defScope s_Goer_init) := ⟨rfl, rfl, rfl, by decide +kernel, rfl, by decide +kernel, by decide +kernel⟩
abbrev s_Goer_entry : Stmt := inClass (top 11) 1
abbrev N_Goer_entry : List Str := ["self"]
theorem sc_Goer_entry : FnScope ["self"] ["self"] (defScope s_Goer_entry) := ⟨rfl, rfl, rfl, by decide +kernel, rfl, by decide +kernel, by decide +kernel⟩
abbrev s_Goer_step : Stmt := inClass (top 11) 2
abbrev N_Goer_step : List Str := ["self", "entry"]
theorem sc_Goer_step : FnScope ["self", "entry"] ["self"] (defScope s_Goer_step) := ⟨rfl, rfl, rfl, by decide +kernel, rfl, by decide +kernel, by decide +kernel⟩
abbrev s_gone : Stmt := top 13
abbrev N_gone : List Str := ["machine", "most", "walk", "going"]
theorem sc_gone : FnScope ["machine", "most", "walk", "going"] ["machine", "most"] (defScope s_gone) := ⟨rfl, rfl, rfl, by decide +kernel, rfl, by decide +kernel, by decide +kernel⟩
abbrev s_told_strip : Stmt := top 10
abbrev N_told_strip : List Str := ["signs", "place", "sign"]
theorem sc_told_strip : FnScope ["signs", "place", "sign"] ["signs"] (defScope s_told_strip) := ⟨rfl, rfl, rfl, by decide +kernel, rfl, by decide +kernel, by decide +kernel⟩
abbrev s_Goer_setup : Stmt := inClass (top 11) 3
abbrev N_Goer_setup : List Str := ["self"]
theorem sc_Goer_setup : FnScope ["self"] ["self"] (defScope s_Goer_setup) := ⟨rfl, rfl, rfl, by decide +kernel, rfl, by decide +kernel, by decide +kernel⟩
abbrev s_run : Stmt := top 14
abbrev N_run : List Str := ["machine", "most", "walk", "ended"]
theorem sc_run : FnScope ["machine", "most", "walk", "ended"] ["machine", "most"] (defScope s_run) := ⟨rfl, rfl, rfl, by decide +kernel, rfl, by decide +kernel, by decide +kernel⟩
abbrev s_is_width : Stmt := top 34
abbrev N_is_width : List Str := ["machine", "width", "many", "k"]
theorem sc_is_width : FnScope ["machine", "width", "many", "k"] ["machine", "width"] (defScope s_is_width) := ⟨rfl, rfl, rfl, by decide +kernel, rfl, by decide +kernel, by decide +kernel⟩
abbrev s_entry_for : Stmt := top 37
abbrev N_entry_for : List Str := ["machine", "middle"]
theorem sc_entry_for : FnScope ["machine", "middle"] ["machine", "middle"] (defScope s_entry_for) := ⟨rfl, rfl, rfl, by decide +kernel, rfl, by decide +kernel, by decide +kernel⟩
abbrev s_led_right : Stmt := top 35
abbrev N_led_right : List Str := ["middle", "put", "row", "rights", "left", "here", "sign", "right", "new_left", "found", "word"]
theorem sc_led_right : FnScope ["middle", "put", "row", "rights", "left", "here", "sign", "right", "new_left", "found", "word"] ["middle", "put", "row", "rights"] (defScope s_led_right) := ⟨rfl, rfl, rfl, by decide +kernel, rfl, by decide +kernel, by decide +kernel⟩
abbrev s_led_left : Stmt := top 36
abbrev N_led_left : List Str := ["middle", "put", "row", "lefts", "left", "here", "sign", "right", "new_right", "found", "word"]
theorem sc_led_left : FnScope ["middle", "put", "row", "lefts", "left", "here", "sign", "right", "new_right", "found", "word"] ["middle", "put", "row", "lefts"] (defScope s_led_left) := ⟨rfl, rfl, rfl, by decide +kernel, rfl, by decide +kernel, by decide +kernel⟩
abbrev s_put_new : Stmt := top 38
abbrev N_put_new : List Str := ["found", "things", "new", "thing"]
theorem sc_put_new : FnScope ["found", "things", "new", "thing"] ["found", "things"] (defScope s_put_new) := ⟨rfl, rfl, rfl, by decide +kernel, rfl, by decide +kernel, by decide +kernel⟩
abbrev s_grown : Stmt := top 39
abbrev N_grown : List Str := ["machine", "lefts", "rights", "middles", "new", "middle", "entry", "put", "way", "row", "word", "more"]
theorem sc_grown : FnScope ["machine", "lefts", "rights", "middles", "new", "middle", "entry", "put", "way", "row", "word", "more"] ["machine", "lefts", "rights", "middles"] (defScope s_grown) := ⟨rfl, rfl, rfl, by decide +kernel, rfl, by decide +kernel, by decide +kernel⟩
abbrev s_least_told : Stmt := top 40
abbrev N_least_told : List Str := ["machine", "width", "noughts", "lefts", "rights", "middles", "new"]
theorem sc_least_told : FnScope ["machine", "width", "noughts", "lefts", "rights", "middles", "new"] ["machine", "width"] (defScope s_least_told) := ⟨rfl, rfl, rfl, by decide +kernel, rfl, by decide +kernel, by decide +kernel⟩
abbrev s_shut_paper : Stmt := top 48
abbrev N_shut_paper : List Str := ["machine", "width", "found"]
theorem sc_shut_paper : FnScope ["machine", "width", "found"] ["machine"] (defScope s_shut_paper) := ⟨rfl, rfl, rfl, by decide +kernel, rfl, by decide +kernel, by decide +kernel⟩
abbrev s_plain : Stmt := top 27
abbrev N_plain : List Str := ["signs", "found", "place"]
theorem sc_plain : FnScope ["signs", "found", "place"] ["signs"] (defScope s_plain) := ⟨rfl, rfl, rfl, by decide +kernel, rfl, by decide +kernel, by decide +kernel⟩
abbrev s_Log_init : Stmt := inClass (top 26) 0
abbrev N_Log_init : List Str := ["self", "machine", "most", "walk", "going"]
theorem sc_Log_init : FnScope ["self", "machine", "most", "walk", "going"] ["self", "machine", "most"] (defScope s_Log_init) := ⟨rfl, rfl, rfl, by decide +kernel, rfl, by decide +kernel, by decide +kernel⟩
abbrev s_Log_last : Stmt := inClass (top 26) 1
abbrev N_Log_last : List Str := ["self"]
theorem sc_Log_last : FnScope ["self"] ["self"] (defScope s_Log_last) := ⟨rfl, rfl, rfl, by decide +kernel, rfl, by decide +kernel, by decide +kernel⟩
abbrev s_Log_same : Stmt := inClass (top 26) 2
abbrev N_Log_same : List Str := ["self", "one", "other"]
theorem sc_Log_same : FnScope ["self", "one", "other"] ["self", "one", "other"] (defScope s_Log_same) := ⟨rfl, rfl, rfl, by decide +kernel, rfl, by decide +kernel, by decide +kernel⟩
abbrev s_ring : Stmt := top 30
abbrev N_ring : List Str := ["machine", "most", "log", "last", "first"]
theorem sc_ring : FnScope ["machine", "most", "log", "last", "first"] ["machine", "most"] (defScope s_ring) := ⟨rfl, rfl, rfl, by decide +kernel, rfl, by decide +kernel, by decide +kernel⟩
abbrev s_Log_drifts : Stmt := inClass (top 26) 3
abbrev N_Log_drifts : List Str := ["self", "one", "other", "low", "high", "by", "ahead", "behind", "place", "within"]
theorem sc_Log_drifts : FnScope ["self", "one", "other", "low", "high", "by", "ahead", "behind", "place", "within"] ["self", "one", "other", "low", "high"] (defScope s_Log_drifts) := ⟨rfl, rfl, rfl, by decide +kernel, rfl, by decide +kernel, by decide +kernel⟩
abbrev s_drift : Stmt := top 31
abbrev N_drift : List Str := ["machine", "most", "log", "last", "low", "high", "best", "first"]
theorem sc_drift : FnScope ["machine", "most", "log", "last", "low", "high", "best", "first"] ["machine", "most"] (defScope s_drift) := ⟨rfl, rfl, rfl, by decide +kernel, rfl, by decide +kernel, by decide +kernel⟩
abbrev s_ends_of : Stmt := top 19
abbrev N_ends_of : List Str := ["machine", "found", "row", "sign"]
theorem sc_ends_of : FnScope ["machine", "found", "row", "sign"] ["machine"] (defScope s_ends_of) := ⟨rfl, rfl, rfl, by decide +kernel, rfl, by decide +kernel, by decide +kernel⟩
abbrev s_ahead_of : Stmt := top 20
abbrev N_ahead_of : List Str := ["machine", "part", "signs", "found", "row", "sign", "entry", "known", "place", "one"]
theorem sc_ahead_of : FnScope ["machine", "part", "signs", "found", "row", "sign", "entry", "known", "place", "one"] ["machine", "part"] (defScope s_ahead_of) := ⟨rfl, rfl, rfl, by decide +kernel, rfl, by decide +kernel, by decide +kernel⟩
abbrev s_gone_back : Stmt := top 21
abbrev N_gone_back : List Str := ["machine", "parts", "found", "part", "one"]
theorem sc_gone_back : FnScope ["machine", "parts", "found", "part", "one"] ["machine", "parts"] (defScope s_gone_back) := ⟨rfl, rfl, rfl, by decide +kernel, rfl, by decide +kernel, by decide +kernel⟩
abbrev s_first_empty : Stmt := top 22
abbrev N_first_empty : List Str := ["machine", "most", "parts", "depth"]
theorem sc_first_empty : FnScope ["machine", "most", "parts", "depth"] ["machine", "most"] (defScope s_first_empty) := ⟨rfl, rfl, rfl, by decide +kernel, rfl, by decide +kernel, by decide +kernel⟩
abbrev s_ends_behind : Stmt := top 15
abbrev N_ends_behind : List Str := ["machine", "most", "walk", "ended"]
theorem sc_ends_behind : FnScope ["machine", "most", "walk", "ended"] ["machine", "most"] (defScope s_ends_behind) := ⟨rfl, rfl, rfl, by decide +kernel, rfl, by decide +kernel, by decide +kernel⟩
abbrev s_is_back : Stmt := top 23
abbrev N_is_back : List Str := ["machine", "depth", "empty"]
theorem sc_is_back : FnScope ["machine", "depth", "empty"] ["machine", "depth"] (defScope s_is_back) := ⟨rfl, rfl, rfl, by decide +kernel, rfl, by decide +kernel, by decide +kernel⟩
abbrev s_no_back : Stmt := top 24
abbrev N_no_back : List Str := ["machine", "most", "depth"]
theorem sc_no_back : FnScope ["machine", "most", "depth"] ["machine", "most"] (defScope s_no_back) := ⟨rfl, rfl, rfl, by decide +kernel, rfl, by decide +kernel, by decide +kernel⟩
abbrev s_sorted_as : Stmt := top 49
abbrev N_sorted_as : List Str := ["machine", "word", "steps", "setup", "found"]
theorem sc_sorted_as : FnScope ["machine", "word", "steps", "setup", "found"] ["machine"] (defScope s_sorted_as) := ⟨rfl, rfl, rfl, by decide +kernel, rfl, by decide +kernel, by decide +kernel⟩
abbrev s_met_at : Stmt := top 60
abbrev N_met_at : List Str := ["machine", "row", "place", "strip"]
theorem sc_met_at : FnScope ["machine", "row", "place", "strip"] ["machine"] (defScope s_met_at) := ⟨rfl, rfl, rfl, by decide +kernel, rfl, by decide +kernel, by decide +kernel⟩
abbrev s_all_entries : Stmt := top 56
abbrev N_all_entries : List Str := ["machine", "found", "entries", "entry"]
theorem sc_all_entries : FnScope ["machine", "found", "entries", "entry"] ["machine"] (defScope s_all_entries) := ⟨rfl, rfl, rfl, by decide +kernel, rfl, by decide +kernel, by decide +kernel⟩
abbrev s_named_signs : Stmt := top 57
abbrev N_named_signs : List Str := ["machine", "entry"]
theorem sc_named_signs : FnScope ["machine", "entry"] ["machine"] (defScope s_named_signs) := ⟨rfl, rfl, rfl, by decide +kernel, rfl, by decide +kernel, by decide +kernel⟩
abbrev s_with_entry : Stmt := top 55
abbrev N_with_entry : List Str := ["machine", "row", "sign", "entry", "found", "entries"]
theorem sc_with_entry : FnScope ["machine", "row", "sign", "entry", "found", "entries"] ["machine", "row", "sign", "entry"] (defScope s_with_entry) := ⟨rfl, rfl, rfl, by decide +kernel, rfl, by decide +kernel, by decide +kernel⟩
abbrev s_named_rows : Stmt := top 58
abbrev N_named_rows : List Str := ["machine", "entry"]
theorem sc_named_rows : FnScope ["machine", "entry"] ["machine"] (defScope s_named_rows) := ⟨rfl, rfl, rfl, by decide +kernel, rfl, by decide +kernel, by decide +kernel⟩
abbrev s_children : Stmt := top 59
abbrev N_children : List Str := ["machine", "row", "sign", "ways", "found", "put", "way", "goes"]
theorem sc_children : FnScope ["machine", "row", "sign", "ways", "found", "put", "way", "goes"] ["machine", "row", "sign"] (defScope s_children) := ⟨rfl, rfl, rfl, by decide +kernel, rfl, by decide +kernel, by decide +kernel⟩
abbrev s_tree : Stmt := top 61
abbrev N_tree : List Str := ["rows", "signs", "waiting", "found", "machine", "paper", "row", "sign"]
theorem sc_tree : FnScope ["rows", "signs", "waiting", "found", "machine", "paper", "row", "sign"] ["rows", "signs"] (defScope s_tree) := ⟨rfl, rfl, rfl, by decide +kernel, rfl, by decide +kernel, by decide +kernel⟩
abbrev s_L_met : Stmt := top 70
abbrev N_L_met : List Str := ["_law_machine", "_law_most", "_law_row", "_law_place", "_law_strip", "_law_steps", "_law_entry"]
theorem sc_L_met : FnScope ["_law_machine", "_law_most", "_law_row", "_law_place", "_law_strip", "_law_steps", "_law_entry"] ["_law_machine", "_law_most"] (defScope s_L_met) := ⟨rfl, rfl, rfl, by decide +kernel, rfl, by decide +kernel, by decide +kernel⟩
abbrev s_L_named_things : Stmt := top 69
abbrev N_L_named_things : List Str := ["_law_machine", "_law_at", "_law_found", "_law_entries", "_law_entry"]
theorem sc_L_named_things : FnScope ["_law_machine", "_law_at", "_law_found", "_law_entries", "_law_entry"] ["_law_machine", "_law_at"] (defScope s_L_named_things) := ⟨rfl, rfl, rfl, by decide +kernel, rfl, by decide +kernel, by decide +kernel⟩
abbrev s_L_children : Stmt := top 71
abbrev N_L_children : List Str := ["_law_machine", "_law_row", "_law_sign", "_law_first", "_law_entry", "_law_entries", "_law_found", "_law_put", "_law_way", "_law_goes", "_law_child"]
theorem sc_L_children : FnScope ["_law_machine", "_law_row", "_law_sign", "_law_first", "_law_entry", "_law_entries", "_law_found", "_law_put", "_law_way", "_law_goes", "_law_child"] ["_law_machine", "_law_row", "_law_sign"] (defScope s_L_children) := ⟨rfl, rfl, rfl, by decide +kernel, rfl, by decide +kernel, by decide +kernel⟩
abbrev s_L_nodes : Stmt := top 72
abbrev N_L_nodes : List Str := ["_law_rows", "_law_signs", "_law_waiting", "_law_row", "_law_found", "_law_machine", "_law_met_here"]
theorem sc_L_nodes : FnScope ["_law_rows", "_law_signs", "_law_waiting", "_law_row", "_law_found", "_law_machine", "_law_met_here"] ["_law_rows", "_law_signs"] (defScope s_L_nodes) := ⟨rfl, rfl, rfl, by decide +kernel, rfl, by decide +kernel, by decide +kernel⟩
abbrev s_L_plainly : Stmt := top 68
abbrev N_L_plainly : List Str := ["_law_found", "_law_part"]
theorem sc_L_plainly : FnScope ["_law_found", "_law_part"] ["_law_found"] (defScope s_L_plainly) := ⟨rfl, rfl, rfl, by decide +kernel, rfl, by decide +kernel, by decide +kernel⟩
abbrev s_is_ring : Stmt := top 28
abbrev N_is_ring : List Str := ["machine", "first", "last", "log"]
theorem sc_is_ring : FnScope ["machine", "first", "last", "log"] ["machine", "first", "last"] (defScope s_is_ring) := ⟨rfl, rfl, rfl, by decide +kernel, rfl, by decide +kernel, by decide +kernel⟩
abbrev s_is_drift : Stmt := top 29
abbrev N_is_drift : List Str := ["machine", "first", "last", "log", "places"]
theorem sc_is_drift : FnScope ["machine", "first", "last", "log", "places"] ["machine", "first", "last"] (defScope s_is_drift) := ⟨rfl, rfl, rfl, by decide +kernel, rfl, by decide +kernel, by decide +kernel⟩
abbrev s_are_words : Stmt := top 41
abbrev N_are_words : List Str := ["words", "width", "signs", "word", "sign"]
theorem sc_are_words : FnScope ["words", "width", "signs", "word", "sign"] ["words", "width", "signs"] (defScope s_are_words) := ⟨rfl, rfl, rfl, by decide +kernel, rfl, by decide +kernel, by decide +kernel⟩
abbrev s_are_middles : Stmt := top 42
abbrev N_are_middles : List Str := ["machine", "width", "middles", "signs", "left", "row", "sign", "right"]
theorem sc_are_middles : FnScope ["machine", "width", "middles", "signs", "left", "row", "sign", "right"] ["machine", "width", "middles"] (defScope s_are_middles) := ⟨rfl, rfl, rfl, by decide +kernel, rfl, by decide +kernel, by decide +kernel⟩
abbrev s_shows_shut : Stmt := top 43
abbrev N_shows_shut : List Str := ["machine", "paper", "kind", "width", "lefts", "rights", "middles", "signs", "noughts", "left_set", "right_set", "middle_set"]
theorem sc_shows_shut : FnScope ["machine", "paper", "kind", "width", "lefts", "rights", "middles", "signs", "noughts", "left_set", "right_set", "middle_set"] ["machine", "paper"] (defScope s_shows_shut) := ⟨rfl, rfl, rfl, by decide +kernel, rfl, by decide +kernel, by decide +kernel⟩
abbrev s_shows : Stmt := top 63
abbrev N_shows : List Str := ["machine", "paper"]
theorem sc_shows : FnScope ["machine", "paper"] ["machine", "paper"] (defScope s_shows) := ⟨rfl, rfl, rfl, by decide +kernel, rfl, by decide +kernel, by decide +kernel⟩
abbrev s_law : Stmt := top 73
abbrev N_law : List Str := ["_law_script", "_law_purse_here", "_law_rows", "_law_signs", "_law_way", "_law_found", "_law_due", "_law_node", "_law_k", "_law_machine", "_law_paper", "_law_met_here", "_law_other", "_law_row", "_law_entries", "_law_part", "_law_one", "_law_marks"]
theorem sc_law : FnScope ["_law_script", "_law_purse_here", "_law_rows", "_law_signs", "_law_way", "_law_found", "_law_due", "_law_node", "_law_k", "_law_machine", "_law_paper", "_law_met_here", "_law_other", "_law_row", "_law_entries", "_law_part", "_law_one", "_law_marks"] ["_law_script"] (defScope s_law) := ⟨rfl, rfl, rfl, by decide +kernel, rfl, by decide +kernel, by decide +kernel⟩
set_option genInjectivity false in
set_option genSizeOf false in
/-- what the top has written: where each def stands, what the names hold -/
structure Tx (K : PySem.W.Frag) (mg : Str → Option Value) where
  a_L_mixed : Addr
  fd_L_mixed : FuncData
  F_L_mixed : Fun K "_law_mixed" "_law_mixed" s_L_mixed a_L_mixed fd_L_mixed
  b_L_mixed : Binds K fd_L_mixed ["_law_cell", "_law_k"] []
  m_L_mixed : mg "_law_mixed" = some (.ref a_L_mixed)
  a_L_purse : Addr
  fd_L_purse : FuncData
  F_L_purse : Fun K "_law_purse" "_law_purse" s_L_purse a_L_purse fd_L_purse
  b_L_purse : Binds K fd_L_purse ["_law_script"] []
  m_L_purse : mg "_law_purse" = some (.ref a_L_purse)
  a_L_draw : Addr
  fd_L_draw : FuncData
  F_L_draw : Fun K "_law_draw" "_law_draw" s_L_draw a_L_draw fd_L_draw
  b_L_draw : Binds K fd_L_draw ["_law_purse_here", "_law_out_of"] []
  m_L_draw : mg "_law_draw" = some (.ref a_L_draw)
  a_must_size : Addr
  fd_must_size : FuncData
  F_must_size : Fun K "must_size" "must_size" s_must_size a_must_size fd_must_size
  b_must_size : Binds K fd_must_size ["rows", "signs"] []
  m_must_size : mg "must_size" = some (.ref a_must_size)
  a_empty_machine : Addr
  fd_empty_machine : FuncData
  F_empty_machine : Fun K "empty_machine" "empty_machine" s_empty_machine a_empty_machine fd_empty_machine
  b_empty_machine : Binds K fd_empty_machine ["rows", "signs"] []
  m_empty_machine : mg "empty_machine" = some (.ref a_empty_machine)
  a_is_entry : Addr
  fd_is_entry : FuncData
  F_is_entry : Fun K "is_entry" "is_entry" s_is_entry a_is_entry fd_is_entry
  b_is_entry : Binds K fd_is_entry ["entry", "rows", "signs"] []
  m_is_entry : mg "is_entry" = some (.ref a_is_entry)
  a_is_machine : Addr
  fd_is_machine : FuncData
  F_is_machine : Fun K "is_machine" "is_machine" s_is_machine a_is_machine fd_is_machine
  b_is_machine : Binds K fd_is_machine ["machine"] []
  m_is_machine : mg "is_machine" = some (.ref a_is_machine)
  a_must_machine : Addr
  fd_must_machine : FuncData
  F_must_machine : Fun K "must_machine" "must_machine" s_must_machine a_must_machine fd_must_machine
  b_must_machine : Binds K fd_must_machine ["machine"] []
  m_must_machine : mg "must_machine" = some (.ref a_must_machine)
  a_Goer_init : Addr
  fd_Goer_init : FuncData
  F_Goer_init : Fun K "__init__" "Goer.__init__" s_Goer_init a_Goer_init fd_Goer_init
  b_Goer_init : Binds K fd_Goer_init ["self", "machine", "setup"] []
  a_Goer_entry : Addr
  fd_Goer_entry : FuncData
  F_Goer_entry : Fun K "entry" "Goer.entry" s_Goer_entry a_Goer_entry fd_Goer_entry
  b_Goer_entry : Binds K fd_Goer_entry ["self"] []
  a_Goer_step : Addr
  fd_Goer_step : FuncData
  F_Goer_step : Fun K "step" "Goer.step" s_Goer_step a_Goer_step fd_Goer_step
  b_Goer_step : Binds K fd_Goer_step ["self"] []
  a_gone : Addr
  fd_gone : FuncData
  F_gone : Fun K "gone" "gone" s_gone a_gone fd_gone
  b_gone : Binds K fd_gone ["machine", "most"] []
  m_gone : mg "gone" = some (.ref a_gone)
  a_told_strip : Addr
  fd_told_strip : FuncData
  F_told_strip : Fun K "told_strip" "told_strip" s_told_strip a_told_strip fd_told_strip
  b_told_strip : Binds K fd_told_strip ["signs"] []
  m_told_strip : mg "told_strip" = some (.ref a_told_strip)
  a_Goer_setup : Addr
  fd_Goer_setup : FuncData
  F_Goer_setup : Fun K "setup" "Goer.setup" s_Goer_setup a_Goer_setup fd_Goer_setup
  b_Goer_setup : Binds K fd_Goer_setup ["self"] []
  a_run : Addr
  fd_run : FuncData
  F_run : Fun K "run" "run" s_run a_run fd_run
  b_run : Binds K fd_run ["machine", "most"] []
  m_run : mg "run" = some (.ref a_run)
  a_is_width : Addr
  fd_is_width : FuncData
  F_is_width : Fun K "is_width" "is_width" s_is_width a_is_width fd_is_width
  b_is_width : Binds K fd_is_width ["machine", "width"] []
  m_is_width : mg "is_width" = some (.ref a_is_width)
  a_entry_for : Addr
  fd_entry_for : FuncData
  F_entry_for : Fun K "entry_for" "entry_for" s_entry_for a_entry_for fd_entry_for
  b_entry_for : Binds K fd_entry_for ["machine", "middle"] []
  m_entry_for : mg "entry_for" = some (.ref a_entry_for)
  a_led_right : Addr
  fd_led_right : FuncData
  F_led_right : Fun K "led_right" "led_right" s_led_right a_led_right fd_led_right
  b_led_right : Binds K fd_led_right ["middle", "put", "row", "rights"] []
  m_led_right : mg "led_right" = some (.ref a_led_right)
  a_led_left : Addr
  fd_led_left : FuncData
  F_led_left : Fun K "led_left" "led_left" s_led_left a_led_left fd_led_left
  b_led_left : Binds K fd_led_left ["middle", "put", "row", "lefts"] []
  m_led_left : mg "led_left" = some (.ref a_led_left)
  a_put_new : Addr
  fd_put_new : FuncData
  F_put_new : Fun K "put_new" "put_new" s_put_new a_put_new fd_put_new
  b_put_new : Binds K fd_put_new ["found", "things"] []
  m_put_new : mg "put_new" = some (.ref a_put_new)
  a_grown : Addr
  fd_grown : FuncData
  F_grown : Fun K "grown" "grown" s_grown a_grown fd_grown
  b_grown : Binds K fd_grown ["machine", "lefts", "rights", "middles"] []
  m_grown : mg "grown" = some (.ref a_grown)
  a_least_told : Addr
  fd_least_told : FuncData
  F_least_told : Fun K "least_told" "least_told" s_least_told a_least_told fd_least_told
  b_least_told : Binds K fd_least_told ["machine", "width"] []
  m_least_told : mg "least_told" = some (.ref a_least_told)
  a_shut_paper : Addr
  fd_shut_paper : FuncData
  F_shut_paper : Fun K "shut_paper" "shut_paper" s_shut_paper a_shut_paper fd_shut_paper
  b_shut_paper : Binds K fd_shut_paper ["machine"] []
  m_shut_paper : mg "shut_paper" = some (.ref a_shut_paper)
  a_plain : Addr
  fd_plain : FuncData
  F_plain : Fun K "plain" "plain" s_plain a_plain fd_plain
  b_plain : Binds K fd_plain ["signs"] []
  m_plain : mg "plain" = some (.ref a_plain)
  a_Log_init : Addr
  fd_Log_init : FuncData
  F_Log_init : Fun K "__init__" "Log.__init__" s_Log_init a_Log_init fd_Log_init
  b_Log_init : Binds K fd_Log_init ["self", "machine", "most"] []
  a_Log_last : Addr
  fd_Log_last : FuncData
  F_Log_last : Fun K "last" "Log.last" s_Log_last a_Log_last fd_Log_last
  b_Log_last : Binds K fd_Log_last ["self"] []
  a_Log_same : Addr
  fd_Log_same : FuncData
  F_Log_same : Fun K "same" "Log.same" s_Log_same a_Log_same fd_Log_same
  b_Log_same : Binds K fd_Log_same ["self", "one", "other"] []
  a_ring : Addr
  fd_ring : FuncData
  F_ring : Fun K "ring" "ring" s_ring a_ring fd_ring
  b_ring : Binds K fd_ring ["machine", "most"] []
  m_ring : mg "ring" = some (.ref a_ring)
  a_Log_drifts : Addr
  fd_Log_drifts : FuncData
  F_Log_drifts : Fun K "drifts" "Log.drifts" s_Log_drifts a_Log_drifts fd_Log_drifts
  b_Log_drifts : Binds K fd_Log_drifts ["self", "one", "other", "low", "high"] []
  a_drift : Addr
  fd_drift : FuncData
  F_drift : Fun K "drift" "drift" s_drift a_drift fd_drift
  b_drift : Binds K fd_drift ["machine", "most"] []
  m_drift : mg "drift" = some (.ref a_drift)
  a_ends_of : Addr
  fd_ends_of : FuncData
  F_ends_of : Fun K "ends_of" "ends_of" s_ends_of a_ends_of fd_ends_of
  b_ends_of : Binds K fd_ends_of ["machine"] []
  m_ends_of : mg "ends_of" = some (.ref a_ends_of)
  a_ahead_of : Addr
  fd_ahead_of : FuncData
  F_ahead_of : Fun K "ahead_of" "ahead_of" s_ahead_of a_ahead_of fd_ahead_of
  b_ahead_of : Binds K fd_ahead_of ["machine", "part"] []
  m_ahead_of : mg "ahead_of" = some (.ref a_ahead_of)
  a_gone_back : Addr
  fd_gone_back : FuncData
  F_gone_back : Fun K "gone_back" "gone_back" s_gone_back a_gone_back fd_gone_back
  b_gone_back : Binds K fd_gone_back ["machine", "parts"] []
  m_gone_back : mg "gone_back" = some (.ref a_gone_back)
  a_first_empty : Addr
  fd_first_empty : FuncData
  F_first_empty : Fun K "first_empty" "first_empty" s_first_empty a_first_empty fd_first_empty
  b_first_empty : Binds K fd_first_empty ["machine", "most"] []
  m_first_empty : mg "first_empty" = some (.ref a_first_empty)
  a_ends_behind : Addr
  fd_ends_behind : FuncData
  F_ends_behind : Fun K "ends_behind" "ends_behind" s_ends_behind a_ends_behind fd_ends_behind
  b_ends_behind : Binds K fd_ends_behind ["machine", "most"] []
  m_ends_behind : mg "ends_behind" = some (.ref a_ends_behind)
  a_is_back : Addr
  fd_is_back : FuncData
  F_is_back : Fun K "is_back" "is_back" s_is_back a_is_back fd_is_back
  b_is_back : Binds K fd_is_back ["machine", "depth"] []
  m_is_back : mg "is_back" = some (.ref a_is_back)
  a_no_back : Addr
  fd_no_back : FuncData
  F_no_back : Fun K "no_back" "no_back" s_no_back a_no_back fd_no_back
  b_no_back : Binds K fd_no_back ["machine", "most"] []
  m_no_back : mg "no_back" = some (.ref a_no_back)
  a_sorted_as : Addr
  fd_sorted_as : FuncData
  F_sorted_as : Fun K "sorted_as" "sorted_as" s_sorted_as a_sorted_as fd_sorted_as
  b_sorted_as : Binds K fd_sorted_as ["machine"] []
  m_sorted_as : mg "sorted_as" = some (.ref a_sorted_as)
  a_met_at : Addr
  fd_met_at : FuncData
  F_met_at : Fun K "met_at" "met_at" s_met_at a_met_at fd_met_at
  b_met_at : Binds K fd_met_at ["machine"] []
  m_met_at : mg "met_at" = some (.ref a_met_at)
  a_all_entries : Addr
  fd_all_entries : FuncData
  F_all_entries : Fun K "all_entries" "all_entries" s_all_entries a_all_entries fd_all_entries
  b_all_entries : Binds K fd_all_entries ["machine"] []
  m_all_entries : mg "all_entries" = some (.ref a_all_entries)
  a_named_signs : Addr
  fd_named_signs : FuncData
  F_named_signs : Fun K "named_signs" "named_signs" s_named_signs a_named_signs fd_named_signs
  b_named_signs : Binds K fd_named_signs ["machine"] []
  m_named_signs : mg "named_signs" = some (.ref a_named_signs)
  a_with_entry : Addr
  fd_with_entry : FuncData
  F_with_entry : Fun K "with_entry" "with_entry" s_with_entry a_with_entry fd_with_entry
  b_with_entry : Binds K fd_with_entry ["machine", "row", "sign", "entry"] []
  m_with_entry : mg "with_entry" = some (.ref a_with_entry)
  a_named_rows : Addr
  fd_named_rows : FuncData
  F_named_rows : Fun K "named_rows" "named_rows" s_named_rows a_named_rows fd_named_rows
  b_named_rows : Binds K fd_named_rows ["machine"] []
  m_named_rows : mg "named_rows" = some (.ref a_named_rows)
  a_children : Addr
  fd_children : FuncData
  F_children : Fun K "children" "children" s_children a_children fd_children
  b_children : Binds K fd_children ["machine", "row", "sign"] []
  m_children : mg "children" = some (.ref a_children)
  a_tree : Addr
  fd_tree : FuncData
  F_tree : Fun K "tree" "tree" s_tree a_tree fd_tree
  b_tree : Binds K fd_tree ["rows", "signs"] []
  m_tree : mg "tree" = some (.ref a_tree)
  a_L_met : Addr
  fd_L_met : FuncData
  F_L_met : Fun K "_law_met" "_law_met" s_L_met a_L_met fd_L_met
  b_L_met : Binds K fd_L_met ["_law_machine", "_law_most"] []
  m_L_met : mg "_law_met" = some (.ref a_L_met)
  a_L_named_things : Addr
  fd_L_named_things : FuncData
  F_L_named_things : Fun K "_law_named_things" "_law_named_things" s_L_named_things a_L_named_things fd_L_named_things
  b_L_named_things : Binds K fd_L_named_things ["_law_machine", "_law_at"] []
  m_L_named_things : mg "_law_named_things" = some (.ref a_L_named_things)
  a_L_children : Addr
  fd_L_children : FuncData
  F_L_children : Fun K "_law_children" "_law_children" s_L_children a_L_children fd_L_children
  b_L_children : Binds K fd_L_children ["_law_machine", "_law_row", "_law_sign"] []
  m_L_children : mg "_law_children" = some (.ref a_L_children)
  a_L_nodes : Addr
  fd_L_nodes : FuncData
  F_L_nodes : Fun K "_law_nodes" "_law_nodes" s_L_nodes a_L_nodes fd_L_nodes
  b_L_nodes : Binds K fd_L_nodes ["_law_rows", "_law_signs"] []
  m_L_nodes : mg "_law_nodes" = some (.ref a_L_nodes)
  a_L_plainly : Addr
  fd_L_plainly : FuncData
  F_L_plainly : Fun K "_law_plainly" "_law_plainly" s_L_plainly a_L_plainly fd_L_plainly
  b_L_plainly : Binds K fd_L_plainly ["_law_found"] []
  m_L_plainly : mg "_law_plainly" = some (.ref a_L_plainly)
  a_is_ring : Addr
  fd_is_ring : FuncData
  F_is_ring : Fun K "is_ring" "is_ring" s_is_ring a_is_ring fd_is_ring
  b_is_ring : Binds K fd_is_ring ["machine", "first", "last"] []
  m_is_ring : mg "is_ring" = some (.ref a_is_ring)
  a_is_drift : Addr
  fd_is_drift : FuncData
  F_is_drift : Fun K "is_drift" "is_drift" s_is_drift a_is_drift fd_is_drift
  b_is_drift : Binds K fd_is_drift ["machine", "first", "last"] []
  m_is_drift : mg "is_drift" = some (.ref a_is_drift)
  a_are_words : Addr
  fd_are_words : FuncData
  F_are_words : Fun K "are_words" "are_words" s_are_words a_are_words fd_are_words
  b_are_words : Binds K fd_are_words ["words", "width", "signs"] []
  m_are_words : mg "are_words" = some (.ref a_are_words)
  a_are_middles : Addr
  fd_are_middles : FuncData
  F_are_middles : Fun K "are_middles" "are_middles" s_are_middles a_are_middles fd_are_middles
  b_are_middles : Binds K fd_are_middles ["machine", "width", "middles"] []
  m_are_middles : mg "are_middles" = some (.ref a_are_middles)
  a_shows_shut : Addr
  fd_shows_shut : FuncData
  F_shows_shut : Fun K "shows_shut" "shows_shut" s_shows_shut a_shows_shut fd_shows_shut
  b_shows_shut : Binds K fd_shows_shut ["machine", "paper"] []
  m_shows_shut : mg "shows_shut" = some (.ref a_shows_shut)
  a_shows : Addr
  fd_shows : FuncData
  F_shows : Fun K "shows" "shows" s_shows a_shows fd_shows
  b_shows : Binds K fd_shows ["machine", "paper"] []
  m_shows : mg "shows" = some (.ref a_shows)
  a_law : Addr
  fd_law : FuncData
  F_law : Fun K "law" "law" s_law a_law fd_law
  b_law : Binds K fd_law ["_law_script"] []
  m_law : mg "law" = some (.ref a_law)
  C_NoSize : Addr
  m_NoSize : mg "NoSize" = some (.ref C_NoSize)
  C_NoMachine : Addr
  m_NoMachine : mg "NoMachine" = some (.ref C_NoMachine)
  C_Goer : Addr
  m_Goer : mg "Goer" = some (.ref C_Goer)
  cl_Goer : Cls K C_Goer
  M_Goer : Mk K C_Goer a_Goer_init
  M_Goer_entry : Meth K C_Goer "entry" a_Goer_entry
  M_Goer_step : Meth K C_Goer "step" a_Goer_step
  M_Goer_setup : Meth K C_Goer "setup" a_Goer_setup
  nA_Goer_table : NoAttr K C_Goer "table"
  nA_Goer_row : NoAttr K C_Goer "row"
  nA_Goer_spot : NoAttr K C_Goer "spot"
  nA_Goer_signs : NoAttr K C_Goer "signs"
  nA_Goer_steps : NoAttr K C_Goer "steps"
  C_Log : Addr
  m_Log : mg "Log" = some (.ref C_Log)
  cl_Log : Cls K C_Log
  M_Log : Mk K C_Log a_Log_init
  M_Log_last : Meth K C_Log "last" a_Log_last
  M_Log_same : Meth K C_Log "same" a_Log_same
  M_Log_drifts : Meth K C_Log "drifts" a_Log_drifts
  nA_Log_rows : NoAttr K C_Log "rows"
  nA_Log_places : NoAttr K C_Log "places"
  nA_Log_strips : NoAttr K C_Log "strips"
  nA_Log_has_ended : NoAttr K C_Log "has_ended"
  tk_MOST_ROWS_tree : Tok
  m_MOST_ROWS_tree : mg "MOST_ROWS_tree" = some (.int 4 tk_MOST_ROWS_tree)
  tk_MOST_ENTRIES : Tok
  m_MOST_ENTRIES : mg "MOST_ENTRIES" = some (.int 4 tk_MOST_ENTRIES)
  tk_MOST_ROWS_machines : Tok
  m_MOST_ROWS_machines : mg "MOST_ROWS_machines" = some (.int 4 tk_MOST_ROWS_machines)
  tk_MOST_SIGNS : Tok
  m_MOST_SIGNS : mg "MOST_SIGNS" = some (.int 4 tk_MOST_SIGNS)
  tk_MOST_WORDS : Tok
  m_MOST_WORDS : mg "MOST_WORDS" = some (.int 16 tk_MOST_WORDS)
  tk_MOST_PARTS : Tok
  m_MOST_PARTS : mg "MOST_PARTS" = some (.int 300 tk_MOST_PARTS)
  tk_MOST_DEPTH : Tok
  m_MOST_DEPTH : mg "MOST_DEPTH" = some (.int 8 tk_MOST_DEPTH)
  tk_MOST_STEPS : Tok
  m_MOST_STEPS : mg "MOST_STEPS" = some (.int 200 tk_MOST_STEPS)
  tk_MOST_LOOKED : Tok
  m_MOST_LOOKED : mg "MOST_LOOKED" = some (.int 60 tk_MOST_LOOKED)
  tk_MOST_DEEP : Tok
  m_MOST_DEEP : mg "MOST_DEEP" = some (.int 8 tk_MOST_DEEP)
  n_range : mg "range" = none
  n_len : mg "len" = none
  n_all : mg "all" = none
  n_dict : mg "dict" = none
  n_sorted : mg "sorted" = none
  n_list : mg "list" = none
  n_int : mg "int" = none
  n_min : mg "min" = none
  n_max : mg "max" = none
  n_tuple : mg "tuple" = none
  n_sum : mg "sum" = none
  n_isinstance : mg "isinstance" = none
  n_str : mg "str" = none
  n_bool : mg "bool" = none
  n_enumerate : mg "enumerate" = none
/-! ### the fields of a Goer -/
theorem ne_Goer_table_row : ¬ (("table" : Str) = "row") := by decide +kernel
theorem ne_Goer_table_spot : ¬ (("table" : Str) = "spot") := by decide +kernel
theorem ne_Goer_table_signs : ¬ (("table" : Str) = "signs") := by decide +kernel
theorem ne_Goer_table_steps : ¬ (("table" : Str) = "steps") := by decide +kernel
theorem ne_Goer_row_spot : ¬ (("row" : Str) = "spot") := by decide +kernel
theorem ne_Goer_row_signs : ¬ (("row" : Str) = "signs") := by decide +kernel
theorem ne_Goer_row_steps : ¬ (("row" : Str) = "steps") := by decide +kernel
theorem ne_Goer_spot_signs : ¬ (("spot" : Str) = "signs") := by decide +kernel
theorem ne_Goer_spot_steps : ¬ (("spot" : Str) = "steps") := by decide +kernel
theorem ne_Goer_signs_steps : ¬ (("signs" : Str) = "steps") := by decide +kernel
def Goer_F (v0 v1 v2 v3 v4 : V) : List (Str × V) := [("table", v0), ("row", v1), ("spot", v2), ("signs", v3), ("steps", v4)]
theorem Goer_mk0 (v0 : V) : putF "table" v0 ([] : List (Str × V)) = ([("table", v0)] : List (Str × V)) := by
  simp only [putF]
theorem Goer_mk1 (v0 v1 : V) : putF "row" v1 ([("table", v0)] : List (Str × V)) = ([("table", v0), ("row", v1)] : List (Str × V)) := by
  simp only [putF, if_neg ne_Goer_table_row]
theorem Goer_mk2 (v0 v1 v2 : V) : putF "spot" v2 ([("table", v0), ("row", v1)] : List (Str × V)) = ([("table", v0), ("row", v1), ("spot", v2)] : List (Str × V)) := by
  simp only [putF, if_neg ne_Goer_table_spot, if_neg ne_Goer_row_spot]
theorem Goer_mk3 (v0 v1 v2 v3 : V) : putF "signs" v3 ([("table", v0), ("row", v1), ("spot", v2)] : List (Str × V)) = ([("table", v0), ("row", v1), ("spot", v2), ("signs", v3)] : List (Str × V)) := by
  simp only [putF, if_neg ne_Goer_table_signs, if_neg ne_Goer_row_signs, if_neg ne_Goer_spot_signs]
theorem Goer_mk4 (v0 v1 v2 v3 v4 : V) : putF "steps" v4 ([("table", v0), ("row", v1), ("spot", v2), ("signs", v3)] : List (Str × V)) = ([("table", v0), ("row", v1), ("spot", v2), ("signs", v3), ("steps", v4)] : List (Str × V)) := by
  simp only [putF, if_neg ne_Goer_table_steps, if_neg ne_Goer_row_steps, if_neg ne_Goer_spot_steps, if_neg ne_Goer_signs_steps]
theorem Goer_get_table {v0 v1 v2 v3 v4 : V} : (Goer_F v0 v1 v2 v3 v4).lookup ("table" : Str) = some v0 := by
  have e : Goer_F v0 v1 v2 v3 v4 = putF "table" v0 (Goer_F v0 v1 v2 v3 v4) := by
    unfold Goer_F
    simp only [putF, if_true]
  rw [e, lookup_putF, if_pos rfl]
theorem Goer_get_row {v0 v1 v2 v3 v4 : V} : (Goer_F v0 v1 v2 v3 v4).lookup ("row" : Str) = some v1 := by
  have e : Goer_F v0 v1 v2 v3 v4 = putF "row" v1 (Goer_F v0 v1 v2 v3 v4) := by
    unfold Goer_F
    simp only [putF, if_neg ne_Goer_table_row, if_true]
  rw [e, lookup_putF, if_pos rfl]
theorem Goer_put_row {v0 v1 v2 v3 v4 y : V} : putF "row" y (Goer_F v0 v1 v2 v3 v4) = Goer_F v0 y v2 v3 v4 := by
  unfold Goer_F
  simp only [putF, if_neg ne_Goer_table_row, if_true]
theorem Goer_get_spot {v0 v1 v2 v3 v4 : V} : (Goer_F v0 v1 v2 v3 v4).lookup ("spot" : Str) = some v2 := by
  have e : Goer_F v0 v1 v2 v3 v4 = putF "spot" v2 (Goer_F v0 v1 v2 v3 v4) := by
    unfold Goer_F
    simp only [putF, if_neg ne_Goer_table_spot, if_neg ne_Goer_row_spot, if_true]
  rw [e, lookup_putF, if_pos rfl]
theorem Goer_put_spot {v0 v1 v2 v3 v4 y : V} : putF "spot" y (Goer_F v0 v1 v2 v3 v4) = Goer_F v0 v1 y v3 v4 := by
  unfold Goer_F
  simp only [putF, if_neg ne_Goer_table_spot, if_neg ne_Goer_row_spot, if_true]
theorem Goer_get_signs {v0 v1 v2 v3 v4 : V} : (Goer_F v0 v1 v2 v3 v4).lookup ("signs" : Str) = some v3 := by
  have e : Goer_F v0 v1 v2 v3 v4 = putF "signs" v3 (Goer_F v0 v1 v2 v3 v4) := by
    unfold Goer_F
    simp only [putF, if_neg ne_Goer_table_signs, if_neg ne_Goer_row_signs, if_neg ne_Goer_spot_signs, if_true]
  rw [e, lookup_putF, if_pos rfl]
theorem Goer_get_steps {v0 v1 v2 v3 v4 : V} : (Goer_F v0 v1 v2 v3 v4).lookup ("steps" : Str) = some v4 := by
  have e : Goer_F v0 v1 v2 v3 v4 = putF "steps" v4 (Goer_F v0 v1 v2 v3 v4) := by
    unfold Goer_F
    simp only [putF, if_neg ne_Goer_table_steps, if_neg ne_Goer_row_steps, if_neg ne_Goer_spot_steps, if_neg ne_Goer_signs_steps, if_true]
  rw [e, lookup_putF, if_pos rfl]
theorem Goer_put_steps {v0 v1 v2 v3 v4 y : V} : putF "steps" y (Goer_F v0 v1 v2 v3 v4) = Goer_F v0 v1 v2 v3 y := by
  unfold Goer_F
  simp only [putF, if_neg ne_Goer_table_steps, if_neg ne_Goer_row_steps, if_neg ne_Goer_spot_steps, if_neg ne_Goer_signs_steps, if_true]
theorem Goer_no {v0 v1 v2 v3 v4 : V} {m : Str} (h0 : ¬ m = "table") (h1 : ¬ m = "row") (h2 : ¬ m = "spot") (h3 : ¬ m = "signs") (h4 : ¬ m = "steps") : (Goer_F v0 v1 v2 v3 v4).lookup m = none := by
  have h : ∀ (f : Str) (v : V) (r : List (Str × V)), ¬ m = f → r.lookup m = none → ((f, v) :: r).lookup m = none := fun f v r n q => by
    rw [List.lookup_cons, beq_eq_false_iff_ne.mpr n]; exact q
  unfold Goer_F
  exact h _ _ _ h0 (h _ _ _ h1 (h _ _ _ h2 (h _ _ _ h3 (h _ _ _ h4 rfl))))
theorem Goer_few {v0 v1 v2 v3 v4 : V} : (Goer_F v0 v1 v2 v3 v4).length < 1000 := by show 5 < 1000; decide
/-! ### the fields of a Log -/
theorem ne_Log_rows_places : ¬ (("rows" : Str) = "places") := by decide +kernel
theorem ne_Log_rows_strips : ¬ (("rows" : Str) = "strips") := by decide +kernel
theorem ne_Log_rows_has_ended : ¬ (("rows" : Str) = "has_ended") := by decide +kernel
theorem ne_Log_places_rows : ¬ (("places" : Str) = "rows") := by decide +kernel
theorem ne_Log_places_strips : ¬ (("places" : Str) = "strips") := by decide +kernel
theorem ne_Log_places_has_ended : ¬ (("places" : Str) = "has_ended") := by decide +kernel
theorem ne_Log_strips_rows : ¬ (("strips" : Str) = "rows") := by decide +kernel
theorem ne_Log_strips_places : ¬ (("strips" : Str) = "places") := by decide +kernel
theorem ne_Log_strips_has_ended : ¬ (("strips" : Str) = "has_ended") := by decide +kernel
def Log_F (v0 v1 v2 v3 : V) : List (Str × V) := [("rows", v0), ("places", v1), ("strips", v2), ("has_ended", v3)]
theorem Log_mk0 (v0 : V) : putF "rows" v0 ([] : List (Str × V)) = ([("rows", v0)] : List (Str × V)) := by
  simp only [putF]
theorem Log_mk1 (v0 v1 : V) : putF "places" v1 ([("rows", v0)] : List (Str × V)) = ([("rows", v0), ("places", v1)] : List (Str × V)) := by
  simp only [putF, if_neg ne_Log_rows_places]
theorem Log_mk2 (v0 v1 v2 : V) : putF "strips" v2 ([("rows", v0), ("places", v1)] : List (Str × V)) = ([("rows", v0), ("places", v1), ("strips", v2)] : List (Str × V)) := by
  simp only [putF, if_neg ne_Log_rows_strips, if_neg ne_Log_places_strips]
theorem Log_mk3 (v0 v1 v2 v3 : V) : putF "has_ended" v3 ([("rows", v0), ("places", v1), ("strips", v2)] : List (Str × V)) = ([("rows", v0), ("places", v1), ("strips", v2), ("has_ended", v3)] : List (Str × V)) := by
  simp only [putF, if_neg ne_Log_rows_has_ended, if_neg ne_Log_places_has_ended, if_neg ne_Log_strips_has_ended]
theorem Log_get_rows {v0 v1 v2 v3 : V} : (Log_F v0 v1 v2 v3).lookup ("rows" : Str) = some v0 := by
  have e : Log_F v0 v1 v2 v3 = putF "rows" v0 (Log_F v0 v1 v2 v3) := by
    unfold Log_F
    simp only [putF, if_true]
  rw [e, lookup_putF, if_pos rfl]
theorem Log_get_places {v0 v1 v2 v3 : V} : (Log_F v0 v1 v2 v3).lookup ("places" : Str) = some v1 := by
  have e : Log_F v0 v1 v2 v3 = putF "places" v1 (Log_F v0 v1 v2 v3) := by
    unfold Log_F
    simp only [putF, if_neg ne_Log_rows_places, if_true]
  rw [e, lookup_putF, if_pos rfl]
theorem Log_get_strips {v0 v1 v2 v3 : V} : (Log_F v0 v1 v2 v3).lookup ("strips" : Str) = some v2 := by
  have e : Log_F v0 v1 v2 v3 = putF "strips" v2 (Log_F v0 v1 v2 v3) := by
    unfold Log_F
    simp only [putF, if_neg ne_Log_rows_strips, if_neg ne_Log_places_strips, if_true]
  rw [e, lookup_putF, if_pos rfl]
theorem Log_get_has_ended {v0 v1 v2 v3 : V} : (Log_F v0 v1 v2 v3).lookup ("has_ended" : Str) = some v3 := by
  have e : Log_F v0 v1 v2 v3 = putF "has_ended" v3 (Log_F v0 v1 v2 v3) := by
    unfold Log_F
    simp only [putF, if_neg ne_Log_rows_has_ended, if_neg ne_Log_places_has_ended, if_neg ne_Log_strips_has_ended, if_true]
  rw [e, lookup_putF, if_pos rfl]
theorem Log_no {v0 v1 v2 v3 : V} {m : Str} (h0 : ¬ m = "rows") (h1 : ¬ m = "places") (h2 : ¬ m = "strips") (h3 : ¬ m = "has_ended") : (Log_F v0 v1 v2 v3).lookup m = none := by
  have h : ∀ (f : Str) (v : V) (r : List (Str × V)), ¬ m = f → r.lookup m = none → ((f, v) :: r).lookup m = none := fun f v r n q => by
    rw [List.lookup_cons, beq_eq_false_iff_ne.mpr n]; exact q
  unfold Log_F
  exact h _ _ _ h0 (h _ _ _ h1 (h _ _ _ h2 (h _ _ _ h3 rfl)))
section
variable {P : Program} {w : World} {K : PySem.W.Frag} {mg : Str → Option Value} {base : Heap}
/-! ### min(a, b), min(xs) of data; a list or a tuple walked -/
theorem pi_or {X : Cx} {tg e : Expr} {t1 t2 : TI} (h1 : L2.PI X tg e t1) (h2 : L2.PI X tg e t2) : L2.PI X tg e (fun σ H R => t1 σ H R ∨ t2 σ H R) :=
  ⟨fun pins s σ H R I h => h.elim (h1.run pins s σ H R I) (h2.run pins s σ H R I)⟩
section
open PySem.Spec PyProof.Rows PySem.W PySem.SeqAt
theorem toks_inj {x y : PyData} (h : alike x y = true) (e : keyToks x = keyToks y) : PyData.eqv x y = true := by
  cases k : PyData.eqv x y with
  | true => rfl
  | false =>
    have z := (toks_eqv x y h).2 k [.inl 0] [.inl 1]
    rw [e, lex_pre, lex_irrefl] at z
    have z2 : PyProof.Rows.lexLt itemOrd [(.inl 0 : Int ⊕ List Nat)] [.inl 1] = true := by decide
    rw [z2] at z
    cases z
variable {α : Type} [Dat α]
def ltD (a b : α) : Bool := dataLt (Dat.py a) (Dat.py b)
theorem ltD_irr (a : α) : ltD a a = false := lex_irrefl _
theorem ltD_neg {a b c : α} (h : ltD a c = true) : ltD a b = true ∨ ltD b c = true := lex_negTrans _ _ _ h
theorem ltD_tr {a b c : α} (h : ltD a b = true) (k : ltD b c = true) : ltD a c = true := lex_trans _ _ _ h k
theorem ltD_tot [Lk α] {a b : α} (h : ltD a b = false) (k : ltD b a = false) : a = b := (Dat.eqv a b).mp (toks_inj (Lk.k a b) (lex_total _ _ h k))
def minL (d : α) (ds : List α) : α := ds.foldl (fun a y => if ltD y a then y else a) d
end
section
open PySem.Spec PyProof.Rows PySem.W PySem.SeqAt
variable {prog : Program} {w : World} {A : Around} {E : Value → Shared → Prop} {s : Shared}
end
section
open PySem.Spec PyProof.Rows PySem.W PySem.SeqAt
variable {X : Cx}
/-- min(a, b) of data -/
@[irreducible] def rMin2N (K : PySem.W.Frag) : List V → Hp → VK → Prop := fun vs H Q => ∃ (α : Type) (_ : Dat α) (_ : Lk α) (_ : So α) (x y : V) (a b : α), vs = [x, y] ∧ Is H x a ∧ Is H y b ∧ Dat.dep α ≤ 64 ∧ Q (if ltD b a = true then y else x) H
theorem rMin2N.mk {α : Type} [Dat α] [Lk α] [So α] {K : PySem.W.Frag} {H : Hp} {Q : VK} {x y : V} {a b : α} (hx : Is H x a) (hy : Is H y b) (q : Q (if ltD b a = true then y else x) H) (hd : Dat.dep α ≤ 64 := by decide) : rMin2N K [x, y] H Q := by
  unfold rMin2N; exact ⟨α, inferInstance, inferInstance, inferInstance, x, y, a, b, rfl, hx, hy, hd, q⟩
/-- min(xs), xs a list of data that holds something -/
@[irreducible] def rMinN (K : PySem.W.Frag) : List V → Hp → VK → Prop := fun vs H Q => ∃ (α : Type) (_ : Dat α) (_ : Lk α) (_ : So α) (l : Addr) (xs : List V) (d : α) (ds : List α), vs = [.ref l] ∧ SqL K H l xs ∧ IsAll H xs (d :: ds) ∧ Dat.dep α ≤ 64 ∧
  ∀ (i : Nat) (y : V), xs[i]? = some y → (d :: ds)[i]? = some (minL d ds) → Q y H
theorem rMinN.mk {α : Type} [Dat α] [Lk α] [So α] {K : PySem.W.Frag} {H : Hp} {Q : VK} {l : Addr} {xs : List V} {d : α} {ds : List α} (h : SqL K H l xs) (al : IsAll H xs (d :: ds)) (q : ∀ (i : Nat) (y : V), xs[i]? = some y → (d :: ds)[i]? = some (minL d ds) → Q y H) (hd : Dat.dep α ≤ 64 := by decide) : rMinN K [.ref l] H Q := by
  unfold rMinN; exact ⟨α, inferInstance, inferInstance, inferInstance, l, xs, d, ds, rfl, h, al, hd, q⟩
end
instance : Lk Ent := ⟨fun a b => by
  cases a <;> cases b <;> simp [Dat.py, entP, PySem.W.alike, PySem.W.alikeAll]⟩
/-! ### draws -/
def sp_L_mixed : Sp := fun vs H Q _ => ∃ c k : Int, vs = [.int c, .int k] ∧ 0 ≤ k ∧ k < 1000 ∧ ∀ n : Int, 0 ≤ n → n < 2147483587 → Q (.int n) H
theorem ok_L_mixed (t : Tx K mg) : FnOk P w K mg base CX0 1 t.a_L_mixed t.fd_L_mixed ["_law_cell", "_law_k"] sp_L_mixed := by
  refine t.F_L_mixed.ok sc_L_mixed (fun vs H Q E h => ?_) (fun cdv A outer s H vs Q E hr h => ?_)
  · obtain ⟨c, k, rfl, _⟩ := h
    rfl
  · obtain ⟨c, k, rfl, k0, k1, q⟩ := h
    refine ⟨_, (pss_cons (ps_set (i := 2) sc_L_mixed.nd rfl (by first | exact Or.inl rfl | exact Or.inr rfl) (pe_op op_mod (pv 0) (pe_op op_pow pe_int pe_int)))
      (pss_cons (ps_set (i := 3) sc_L_mixed.nd rfl (by first | exact Or.inl rfl | exact Or.inr rfl) (pe_op op_mod (pe_op op_mul (pe_op op_add (pe_op op_add (pe_op op_add (pe_op op_mul (pv 2) (pv 2)) (pe_op op_mul pe_int (pv 2))) (pe_op op_mul pe_int (pv 1))) pe_int) pe_int) pe_int))
      (pss_cons (ps_set (i := 3) sc_L_mixed.nd rfl (by first | exact Or.inl rfl | exact Or.inr rfl) (pe_op op_mod (pe_op op_add (pe_op op_mul (pv 3) (pv 3)) pe_int) pe_int))
      (pss_one (ps_ret (pe_op op_mod (pe_op op_mul (pv 3) (pe_op op_add (pv 3) pe_int)) pe_int)))))), ?_⟩
    have e15 : (10 : Int) ^ (15 : Int).toNat = 1000000000000000 := by decide
    refine ⟨_, rfl, _, _, rfl, rfl, ⟨by decide, by decide, by decide⟩, _, _, rfl, rfl, (by show (0 : Int) < 10 ^ (15 : Int).toNat; decide), ?_⟩
    rw [e15]
    have h0 : (0 : Int) ≤ c % 1000000000000000 := Int.emod_nonneg _ (by decide)
    have h1 : c % 1000000000000000 < 1000000000000000 := Int.emod_lt_of_pos _ (by decide)
    generalize c % 1000000000000000 = r at h0 h1
    refine ⟨_, rfl, _, rfl, _, _, rfl, rfl, .inl ⟨by omega, by omega⟩, _, rfl, _, _, rfl, rfl, .inl ⟨by decide, by decide⟩, _, _, rfl, rfl, _, rfl, _, _, rfl, rfl, .inl ⟨by decide, by decide⟩, _, _, rfl, rfl, _, _, rfl, rfl,
      _, _, rfl, rfl, .inr ⟨by decide, by decide⟩, _, _, rfl, rfl, (by show (0 : Int) < 2147483629; decide), ?_⟩
    have g0 := Int.emod_nonneg ((r * r + 3 * r + 7919 * k + 1) * 48271) (show (2147483629 : Int) ≠ 0 by decide)
    have g1 := Int.emod_lt_of_pos ((r * r + 3 * r + 7919 * k + 1) * 48271) (show (0 : Int) < 2147483629 by decide)
    generalize (r * r + 3 * r + 7919 * k + 1) * 48271 % 2147483629 = n at g0 g1
    refine ⟨_, rfl, _, rfl, _, _, rfl, rfl, .inl ⟨by omega, by omega⟩, _, _, rfl, rfl, _, _, rfl, rfl, (by show (0 : Int) < 2147483587; decide), ?_⟩
    have f0 := Int.emod_nonneg (n * n + 7) (show (2147483587 : Int) ≠ 0 by decide)
    have f1 := Int.emod_lt_of_pos (n * n + 7) (show (0 : Int) < 2147483587 by decide)
    generalize (n * n + 7) % 2147483587 = m at f0 f1
    refine ⟨_, rfl, _, rfl, _, _, rfl, rfl, _, _, rfl, rfl, .inl ⟨by omega, by omega⟩, _, _, rfl, rfl, (by show (0 : Int) < 2147483563; decide), ?_⟩
    exact q _ (Int.emod_nonneg _ (by decide)) (by have := Int.emod_lt_of_pos (m * (m + 69621)) (show (0 : Int) < 2147483563 by decide); omega)
/-- the purse: two numbers that aren't below 0 -/
def PurseO (a b : Int) : HO := .lst [.int a, .int b]
def sp_L_purse (K : PySem.W.Frag) : Sp := fun vs H Q _ => ∃ (l : Addr) (ns : List Int), vs = [.ref l] ∧ SqL K H l (ns.map V.int) ∧ ns.length ≤ 63 ∧
  ∀ (a b : Int) (p : Addr) (H' : Hp), 0 ≤ a → 0 ≤ b → Same H H' → H p = none → H' p = some (PurseO a b) → Q (.ref p) H'
theorem ok_L_purse (t : Tx K mg) : FnOk P w K mg base CX0 2 t.a_L_purse t.fd_L_purse ["_law_script"] (sp_L_purse K) := by
  refine t.F_L_purse.ok sc_L_purse (fun vs H Q E h => ?_) (fun cdv A outer s H vs Q E hr h => ?_)
  · obtain ⟨l, ns, rfl, _⟩ := h
    rfl
  · obtain ⟨l, ns, rfl, hS, hn, q⟩ := h
    refine ⟨_, (pss_cons (ps_set (i := 1) sc_L_purse.nd rfl (by first | exact Or.inl rfl | exact Or.inr rfl) (pe_op op_cat (pe_slice sl_list (pv 0) po_none (po_some pe_int)) (pe_lst (pa_cons pe_int pa_nil))))
      (pss_cons (ps_set (i := 2) sc_L_purse.nd rfl (by first | exact Or.inl rfl | exact Or.inr rfl) pe_int)
      (pss_cons (ps_for PassesOwn.never rfl (pi_range1 (by rfl) t.n_range (pa_cons pe_int pa_nil)) (pg_name (i := 3) sc_L_purse.nd rfl (by first | exact Or.inl rfl | exact Or.inr rfl)) (pss_one (ps_set (i := 2) sc_L_purse.nd rfl (by first | exact Or.inl rfl | exact Or.inr rfl) (pe_op op_add (pe_op op_mul (pv 2) pe_int) (pe_call (ok_L_mixed t) (hr.mono (by decide)) (by rfl) t.m_L_mixed t.F_L_mixed.kp t.b_L_mixed .nil pass0 (pa_cons (pe_ix ix_list (pv 1) (pe_op op_mod (pv 3) (pe_callB (id := "len") call_lenQ (by rfl) t.n_len (by decide +kernel) (pa_cons (pv 1) pa_nil))) (fun _ _ => rfl)) (pa_cons (pv 3) pa_nil)))))))
      (pss_cons (ps_if (pt_cmpR op_ge (pe_ix ix_list (pv 1) pe_int (fun _ _ => rfl)) (pe_op op_pow pe_int pe_int) (nomark _)) (pss_one (ps_ret (pe_lst (pa_cons (pe_op op_fdivW (pe_ix ix_list (pv 1) pe_int (fun _ _ => rfl)) (pe_op op_pow pe_int pe_int)) (pa_cons (pv 2) pa_nil))))) pss_nil)
      (pss_one (ps_ret (pe_lst (pa_cons (pv 2) (pa_cons (pv 2) pa_nil))))))))), ?_⟩
    refine ⟨_, rfl, _, rfl, l, _, rfl, hS, fun p np => ?_⟩
    rw [cut_63 hn]
    have e0 : ([V.int 0] : List V) = [(0 : Int)].map V.int := rfl
    refine ⟨by show 1 ≤ sizeLine; decide, fun p2 np2 => ⟨p, p2, _, _, rfl, rfl, (by rw [upd_ne (ne_of_none upd_same np2)]; exact upd_same), upd_same, (by show _ + 1 ≤ _; rw [List.length_map]; exact Nat.le_trans (Nat.add_le_add_right hn 1) (by decide)), fun p3 np3 => ?_⟩⟩
    rw [e0, ← List.map_append]
    have s3 : Same H (upd (upd (upd H p (.lst (ns.map V.int))) p2 (.lst ([(0 : Int)].map V.int))) p3 (.lst ((ns ++ [0]).map V.int))) := sm_new (sm_new (sm_new (Same.refl H) np) np2) np3
    have hl : 0 < (ns ++ [0]).length := by simp
    generalize ec : ns ++ [0] = cs at s3 hl
    have h3 : (upd (upd (upd H p (.lst (ns.map V.int))) p2 (.lst ([(0 : Int)].map V.int))) p3 (.lst (cs.map V.int))) p3 = some (.lst (cs.map V.int)) := upd_same
    generalize upd (upd (upd H p (.lst (ns.map V.int))) p2 (.lst ([(0 : Int)].map V.int))) p3 (.lst (cs.map V.int)) = H3 at s3 h3
    refine ⟨150, rfl, by decide, by decide, for_range (lo := 0) (n := 150) (fun i σ H2 => ∃ (n : Int) (v : Option V), σ = [some (.ref l), some (.ref p3), some (.int n), v] ∧ H2 = H3 ∧ 0 ≤ n) ⟨1, none, rfl, rfl, by decide⟩ ?_ ?_⟩
    · rintro i σ H2 hi ⟨n, v, rfl, rfl, hn0⟩
      refine ⟨_, rfl, _, _, rfl, rfl, .inr ⟨by decide, by decide⟩, ?_⟩
      have hm := Int.emod_nonneg (0 + (i : Int)) (show ((cs.map V.int).length : Int) ≠ 0 by rw [List.length_map]; omega)
      have hm1 := Int.emod_lt_of_pos (0 + (i : Int)) (show (0 : Int) < ((cs.map V.int).length : Int) by rw [List.length_map]; omega)
      have hj : (((0 + (i : Int)) % ((cs.map V.int).length : Int)).toNat : Int) = (0 + (i : Int)) % ((cs.map V.int).length : Int) := Int.toNat_of_nonneg hm
      have hj1 : ((0 + (i : Int)) % ((cs.map V.int).length : Int)).toNat < cs.length := by rw [List.length_map] at hm1 ⊢; omega
      refine ⟨_, rfl, _, rfl, _, rfl, p3, _, rfl, .inl (SqL.of h3), _, _, rfl, rfl, (by rw [List.length_map]; omega), p3, _, _, _, rfl, rfl, SqL.of h3, at_of hj.symm (by rw [List.getElem?_map, List.getElem?_eq_getElem hj1]; rfl), ?_⟩
      refine ⟨_, rfl, _, _, rfl, by omega, by omega, fun m m0 m1 => ⟨_, _, rfl, rfl, ?_⟩⟩
      exact ⟨_, _, rfl, rfl, by omega⟩
    · rintro σ H2 ⟨n, v, rfl, rfl, hn0⟩
      have h0 : (cs.map V.int)[0]? = some (.int (cs[0])) := by rw [List.getElem?_map, List.getElem?_eq_getElem hl]; rfl
      refine ⟨_, rfl, p3, _, _, _, rfl, rfl, SqL.of h3, atI_nat (j := 0) h0, _, _, rfl, rfl, ⟨by decide, by decide, by decide⟩, _, _, rfl, rfl, _, rfl, ?_⟩
      refine ite2 (fun c => ?_) (fun c => ?_)
      · refine ⟨_, rfl, p3, _, _, _, rfl, rfl, SqL.of h3, atI_nat (j := 0) h0, _, _, rfl, rfl, ⟨by decide, by decide, by decide⟩, _, _, rfl, rfl, ⟨by decide, by decide⟩, _, rfl, by show 2 ≤ sizeLine; decide, fun q0 nq => ?_⟩
        have c : (10 : Int) ^ (18 : Int).toNat ≤ cs[0] := of_decide_eq_true c
        have e18 : (10 : Int) ^ (18 : Int).toNat = 1000000000000000000 := by decide
        rw [e18] at c
        exact q _ _ q0 _ (Int.ediv_nonneg (by omega) (by rw [e18]; decide)) hn0 (sm_new s3 nq) (s3.free nq) upd_same
      · refine ⟨_, rfl, _, rfl, by show 2 ≤ sizeLine; decide, fun q0 nq => ?_⟩
        exact q _ _ q0 _ hn0 hn0 (sm_new s3 nq) (s3.free nq) upd_same
def sp_L_draw : Sp := fun vs H Q _ => ∃ (p : Addr) (a b n : Int), vs = [.ref p, .int n] ∧ H p = some (PurseO a b) ∧ 0 ≤ a ∧ 0 ≤ b ∧ 0 < n ∧ n < 1267650600228229401496703205376 ∧
  ∀ d a' b' : Int, 0 ≤ d → d < n → 0 ≤ a' → 0 ≤ b' → Q (.int d) (upd H p (PurseO a' b'))
theorem ok_L_draw (t : Tx K mg) : FnOk P w K mg base CX0 1 t.a_L_draw t.fd_L_draw ["_law_purse_here", "_law_out_of"] sp_L_draw := by
  refine t.F_L_draw.ok sc_L_draw (fun vs H Q E h => ?_) (fun cdv A outer s H vs Q E hr h => ?_)
  · obtain ⟨p, a, b, n, rfl, _⟩ := h
    rfl
  · obtain ⟨p, a, b, n, rfl, hp, ha, hb, n0, n1, q⟩ := h
    refine ⟨_, (pss_cons (ps_if (pt_cmpR op_eq (pe_ix ix_list (pv 0) pe_int (fun _ _ => rfl)) pe_int (nomark _)) (pss_one (ps_asg (pe_ix ix_list (pv 0) pe_int (fun _ _ => rfl)) (pg_sub (pv 0) pe_int set_list))) pss_nil)
      (pss_cons (ps_set (i := 2) sc_L_draw.nd rfl (by first | exact Or.inl rfl | exact Or.inr rfl) (pe_op op_mod (pe_ix ix_list (pv 0) pe_int (fun _ _ => rfl)) (pv 1)))
      (pss_cons (ps_asg (pe_op op_fdivW (pe_ix ix_list (pv 0) pe_int (fun _ _ => rfl)) (pv 1)) (pg_sub (pv 0) pe_int set_list))
      (pss_one (ps_ret (pv 2)))))), ?_⟩
    refine ⟨_, rfl, p, _, _, _, rfl, rfl, SqL.of hp, atI_nat (j := 0) rfl, rfl, _, rfl, ?_⟩
    refine ite2 (fun c => ?_) (fun c => ?_)
    · refine ⟨_, rfl, p, _, _, _, rfl, rfl, SqL.of hp, atI_nat (j := 1) rfl, _, rfl, p, _, _, 0, rfl, rfl, hp, rfl, ?_⟩
      refine ⟨_, rfl, p, _, _, _, rfl, rfl, SqL.of upd_same, atI_nat (j := 0) rfl, _, rfl, _, _, rfl, rfl, n0, ?_⟩
      refine ⟨_, rfl, p, _, _, _, rfl, rfl, SqL.of upd_same, atI_nat (j := 0) rfl, _, rfl, _, _, rfl, rfl, wide_div n0 (b := 100) (by have e : (2 : Nat) ^ 100 = 1267650600228229401496703205376 := rfl; rw [e]; omega) (by decide) (by decide), _, rfl, p, _, _, 0, rfl, rfl, upd_same, rfl, _, rfl, ?_⟩
      rw [upd_upd]
      exact q _ _ _ (Int.emod_nonneg _ (by omega)) (Int.emod_lt_of_pos _ n0) (Int.ediv_nonneg hb (by omega)) hb
    · refine ⟨_, rfl, p, _, _, _, rfl, rfl, SqL.of hp, atI_nat (j := 0) rfl, _, rfl, _, _, rfl, rfl, n0, ?_⟩
      refine ⟨_, rfl, p, _, _, _, rfl, rfl, SqL.of hp, atI_nat (j := 0) rfl, _, rfl, _, _, rfl, rfl, wide_div n0 (b := 100) (by have e : (2 : Nat) ^ 100 = 1267650600228229401496703205376 := rfl; rw [e]; omega) (by decide) (by decide), _, rfl, p, _, _, 0, rfl, rfl, hp, rfl, _, rfl, ?_⟩
      exact q _ _ _ (Int.emod_nonneg _ (by omega)) (Int.emod_lt_of_pos _ n0) (Int.ediv_nonneg ha (by omega)) hb
/-! ### small things -/
theorem ln {H : Hp} {p q : Addr} {o u : HO} (n : H q = none) (h : H p = some o) : upd H q u p = some o := (upd_ne (ne_of_none h n)).trans h
theorem kt_int_int {K : PySem.W.Frag} : PySem.W.kitOne K (.type "int") (.type "int") = some true := kit_ty (by decide +kernel)
theorem kt_int_bool {K : PySem.W.Frag} : PySem.W.kitOne K (.type "int") (.type "bool") = some false := kit_ty (by decide +kernel)
theorem kt_tup {K : PySem.W.Frag} : PySem.W.kitOne K (.type "tuple") (.type "tuple") = some true := kit_ty (by decide +kernel)
theorem kt_list {K : PySem.W.Frag} : PySem.W.kitOne K (.type "list") (.type "list") = some true := kit_ty (by decide +kernel)
theorem Gr.frzS {mu : Addr → Prop} {F H F1 H1 : Hp} (g : Gr mu F H F1 H1) (P : Addr → Prop) [DecidablePred P] (h : ∀ c, P c → H c = none ∧ F1 c = none) : Gr mu F H (fun c => if P c then H1 c else F1 c) H1 ∧ Same F1 (fun c => if P c then H1 c else F1 c) := by
  have s : Same F1 (fun c => if P c then H1 c else F1 c) := fun c o e => by
    by_cases p : P c
    · rw [(h c p).2] at e; cases e
    · simp only [p, if_false]; exact e
  refine ⟨⟨fun c o e => s c o (g.ff c o e), fun c o e => ?_, fun c o e => ?_, g.fr, g.th⟩, s⟩
  · by_cases p : P c
    · simp only [p, if_true] at e; exact e
    · simp only [p, if_false] at e; exact g.fh c o e
  · by_cases p : P c
    · exact .inr (h c p).1
    · simp only [p, if_false] at e; exact g.nw c o e
/-! ### machines that are machines -/
structure EOk (R S : Nat) (e : Ent) : Prop where
  ok : ∀ p w r, e = .go p w r → (0 ≤ p ∧ p < S) ∧ (w = -1 ∨ w = 1) ∧ 0 ≤ r ∧ r < R
structure MOk (M : Mach) (R S : Nat) : Prop where
  r1 : 1 ≤ R
  r4 : R ≤ 4
  s2 : 2 ≤ S
  s4 : S ≤ 4
  len : M.length = R
  row : ∀ r ∈ M, r.length = S
  ent : ∀ r ∈ M, ∀ e ∈ r, EOk R S e
/-! ### machines drawn: lists that may be changed yet -/
structure MaO (H F1 H1 : Hp) (m : Addr) (rs : List Addr) (ess : List (List V)) (M : Mach) : Prop where
  ow : Ow H F1 H1 m (.lst (rs.map V.ref))
  nd : rs.Nodup
  ne : m ∉ rs
  len : rs.length = ess.length
  rows : ∀ (i : Nat) r es, rs[i]? = some r → ess[i]? = some es → Ow H F1 H1 r (.lst es)
  dat : All2 (fun es row => IsAll F1 es row) ess M
section
variable {mu mu' : Addr → Prop} {H F F1 H1 F2 H2 : Hp} {m : Addr} {rs : List Addr} {ess : List (List V)} {M : Mach}
theorem MaO.row (x : MaO H F1 H1 m rs ess M) {r : Addr} (h : r ∈ rs) : ∃ es, Ow H F1 H1 r (.lst es) := by
  obtain ⟨i, hi⟩ := List.getElem?_of_mem h
  have l := (List.getElem?_eq_some_iff.mp hi).1
  exact ⟨ess[i]'(by rw [← x.len]; exact l), x.rows i r _ hi (List.getElem?_eq_getElem _)⟩
theorem MaO.gr (x : MaO H F1 H1 m rs ess M) (g : Gr mu F1 H1 F2 H2) (k : ∀ c, mu c → c ≠ m ∧ c ∉ rs) : MaO H F2 H2 m rs ess M where
  ow := x.ow.call g fun z => (k m z).1 rfl
  nd := x.nd
  ne := x.ne
  len := x.len
  rows := fun i r es h1 h2 => (x.rows i r es h1 h2).call g fun z => (k r z).2 (List.mem_of_getElem? h1)
  dat := x.dat.imp fun es row z => z.up g.ff
theorem MaO.off (x : MaO H F1 H1 m rs ess M) {p : Addr} {o : HO} (h : H p = some o) : ∀ c, muP p c → c ≠ m ∧ c ∉ rs := fun c e => by
  rw [show c = p from e]
  refine ⟨fun z => ?_, fun z => ?_⟩
  · rw [z, x.ow.n] at h; cases h
  · obtain ⟨es, w⟩ := x.row z
    rw [w.n] at h; cases h
theorem MaO.offn (x : MaO H F1 H1 m rs ess M) {p : Addr} (h : H1 p = none) : p ≠ m ∧ p ∉ rs := by
  refine ⟨fun z => ?_, fun z => ?_⟩
  · rw [z, x.ow.h] at h; cases h
  · obtain ⟨es, w⟩ := x.row z
    rw [w.h] at h; cases h
/-- a row that is done comes in -/
theorem MaO.add (x : MaO H F1 H1 m rs ess M) {r : Addr} {es : List V} {row : List Ent} (w : Ow H F1 H1 r (.lst es)) (k : r ≠ m ∧ r ∉ rs) (d : IsAll F1 es row) : MaO H F1 (upd H1 m (.lst ((rs ++ [r]).map V.ref))) m (rs ++ [r]) (ess ++ [es]) (M ++ [row]) where
  ow := x.ow.set
  nd := nd_snoc x.nd k.2
  ne := fun z => by
    rcases List.mem_append.mp z with z | z
    · exact x.ne z
    · exact k.1 (List.mem_singleton.mp z).symm
  len := by rw [List.length_append, List.length_append, x.len]; rfl
  rows := fun i r' es' h1 h2 => by
    by_cases l : i < rs.length
    · rw [List.getElem?_append_left l] at h1
      rw [List.getElem?_append_left (by rw [← x.len]; exact l)] at h2
      exact (x.rows i r' es' h1 h2).other fun z => x.ne (by rw [← z]; exact List.mem_of_getElem? h1)
    · rw [List.getElem?_append_right (by omega)] at h1
      rw [List.getElem?_append_right (by rw [← x.len]; omega), ← x.len] at h2
      cases e : i - rs.length with
      | zero =>
        rw [e] at h1 h2
        cases h1; cases h2
        exact w.other k.1
      | succ n => rw [e] at h1; cases h1
  dat := x.dat.app (All2.one d)
/-- an entry of it is changed -/
theorem MaO.put (x : MaO H F1 H1 m rs ess M) {i j : Nat} {r : Addr} {es : List V} {row : List Ent} {v : V} {e : Ent} (hr : rs[i]? = some r) (hes : ess[i]? = some es) (hrow : M[i]? = some row) (hv : Is F1 v e) :
    MaO H F1 (upd H1 r (.lst (es.set j v))) m rs (ess.set i (es.set j v)) (M.set i (row.set j e)) where
  ow := x.ow.other fun z => x.ne (by rw [z]; exact List.mem_of_getElem? hr)
  nd := x.nd
  ne := x.ne
  len := by rw [List.length_set]; exact x.len
  rows := fun i' r' es' h1 h2 => by
    by_cases e : i = i'
    · subst e
      rw [hr] at h1
      cases h1
      rw [List.getElem?_set_self (List.getElem?_eq_some_iff.mp hes).1] at h2
      cases h2
      exact (x.rows i r es hr hes).set
    · rw [List.getElem?_set_ne e] at h2
      exact (x.rows i' r' es' h1 h2).other fun z => e (nd_ix x.nd hr (by rw [← z]; exact h1))
  dat := x.dat.set ((x.dat.2 i es row hes hrow).set hv j) i
/-- it is changed no more -/
theorem MaO.frz (x : MaO H F1 H1 m rs ess M) (g : Gr mu F H F1 H1) : ∃ F2, Gr mu F H F2 H1 ∧ Same F1 F2 ∧ Is F2 (.ref m) M ∧ (∀ c, c ≠ m → c ∉ rs → F2 c = F1 c) ∧ ∀ c, c = m ∨ c ∈ rs → F2 c = H1 c := by
  have own : ∀ c, (c = m ∨ c ∈ rs) → H c = none ∧ F1 c = none ∧ ∃ o, H1 c = some o := fun c h => by
    rcases h with rfl | h
    · exact ⟨x.ow.n, x.ow.f, _, x.ow.h⟩
    · obtain ⟨es, w⟩ := x.row h
      exact ⟨w.n, w.f, _, w.h⟩
  have s : Same F1 (fun c => if c = m ∨ c ∈ rs then H1 c else F1 c) := fun c o h => by
    by_cases e : c = m ∨ c ∈ rs
    · rw [(own c e).2.1] at h; cases h
    · simp only [e, if_false]; exact h
  refine ⟨fun c => if c = m ∨ c ∈ rs then H1 c else F1 c, ⟨fun c o h => s c o (g.ff c o h), fun c o h => ?_, fun c o h => ?_, g.fr, g.th⟩, s, ⟨m, rs.map V.ref, rfl, ?_, by rw [List.length_map, x.len]; exact x.dat.1, fun i v row h1 h2 => ?_⟩, fun c h1 h2 => if_neg fun z => z.elim h1 h2, fun c h => if_pos h⟩
  · by_cases e : c = m ∨ c ∈ rs
    · simp only [e, if_true] at h; exact h
    · simp only [e, if_false] at h; exact g.fh c o h
  · by_cases e : c = m ∨ c ∈ rs
    · exact .inr (own c e).1
    · simp only [e, if_false] at h; exact g.nw c o h
  · show (if m = m ∨ m ∈ rs then H1 m else F1 m) = _
    rw [if_pos (.inl rfl)]; exact x.ow.h
  · rw [List.getElem?_map] at h1
    cases hr : rs[i]? with
    | none => rw [hr] at h1; cases h1
    | some r =>
      rw [hr] at h1
      cases h1
      obtain ⟨es, hes, hd⟩ := x.dat.get h2
      refine ⟨r, es, rfl, ?_, hd.up s⟩
      show (if r = m ∨ r ∈ rs then H1 r else F1 r) = _
      rw [if_pos (.inr (List.mem_of_getElem? hr))]
      exact (x.rows i r es hr hes).h
/-- it may be changed again -/
theorem MaO.thaw {F0 F3 G : Hp} (s0 : Same F0 H) (x : MaO H F1 H1 m rs ess M) (s : Same F1 F2) (on : ∀ c, c = m ∨ c ∈ rs → F2 c = H1 c) (s' : Same F2 F3) (g : Gr mu F0 H F3 G) : ∃ F', Gr mu F0 H F' G ∧ Same F1 F' ∧ MaO H F' G m rs ess M := by
  have own : ∀ c, (c = m ∨ c ∈ rs) → H c = none ∧ F1 c = none ∧ ∀ o, H1 c = some o → G c = some o := fun c h => by
    have k : ∀ o, H1 c = some o → G c = some o := fun o e => g.fh _ _ (s' _ _ ((on c h).trans e))
    rcases id h with rfl | h
    · exact ⟨x.ow.n, x.ow.f, k⟩
    · obtain ⟨es, w⟩ := x.row h
      exact ⟨w.n, w.f, k⟩
  have sa : Same F1 (fun c => if c = m ∨ c ∈ rs then none else F3 c) := fun c o h => by
    by_cases e : c = m ∨ c ∈ rs
    · rw [(own c e).2.1] at h; cases h
    · simp only [e, if_false]; exact s' _ _ (s _ _ h)
  have sb : Same (fun c => if c = m ∨ c ∈ rs then none else F3 c) F3 := fun c o h => by
    by_cases e : c = m ∨ c ∈ rs
    · simp only [e, if_true] at h; cases h
    · simp only [e, if_false] at h; exact h
  have no : ∀ c, (c = m ∨ c ∈ rs) → (fun c => if c = m ∨ c ∈ rs then none else F3 c) c = none := fun c e => if_pos e
  refine ⟨fun c => if c = m ∨ c ∈ rs then none else F3 c, ⟨fun c o h => ?_, fun c o h => g.fh _ _ (sb _ _ h), fun c o h => g.nw _ _ (sb _ _ h), g.fr, g.th⟩, sa, ⟨⟨x.ow.n, no _ (.inl rfl), (own _ (.inl rfl)).2.2 _ x.ow.h⟩, x.nd, x.ne, x.len, fun i r es h1 h2 => ?_, x.dat.imp fun es row z => z.up sa⟩⟩
  · by_cases e : c = m ∨ c ∈ rs
    · have z := s0 c o h
      rw [(own c e).1] at z; cases z
    · simp only [e, if_false]; exact g.ff c o h
  · have w := x.rows i r es h1 h2
    have m' : r = m ∨ r ∈ rs := .inr (List.mem_of_getElem? h1)
    exact ⟨w.n, no _ m', (own _ m').2.2 _ w.h⟩
theorem MaO.at (x : MaO H F1 H1 m rs ess M) {i : Nat} {row : List Ent} (h : M[i]? = some row) : ∃ r es, rs[i]? = some r ∧ ess[i]? = some es ∧ Ow H F1 H1 r (.lst es) ∧ IsAll F1 es row := by
  obtain ⟨es, hes, al⟩ := x.dat.get h
  have l : i < rs.length := by rw [x.len]; exact (List.getElem?_eq_some_iff.mp hes).1
  exact ⟨_, es, List.getElem?_eq_getElem l, hes, x.rows i _ es (List.getElem?_eq_getElem l) hes, al⟩
end
theorem ixN_of {n : Nat} {k : Int} (h0 : 0 ≤ k) (h1 : k < n) : ixN n k = some k.toNat := by
  unfold ixN
  rw [if_pos h0, if_pos h1]
theorem Gr.pf {mu : Addr → Prop} {F H F1 H1 : Hp} {p : Addr} {o : HO} (g : Gr mu F H F1 H1) (f : F p = none) (h : H p = some o) : F1 p = none := by
  cases e : F1 p with
  | none => rfl
  | some z =>
    rcases g.nw p z e with k | k
    · rw [f] at k; cases k
    · rw [h] at k; cases k
/-- a draw: the purse alone is another one -/
theorem Gr.drw {F H F1 H1 : Hp} {p : Addr} {o : HO} {a b : Int} (g : Gr (muP p) F H F1 H1) (f : F p = none) (h : H p = some o) : Gr (muP p) F H F1 (upd H1 p (PurseO a b)) ∧ Gr (muP p) F1 H1 F1 (upd H1 p (PurseO a b)) :=
  ⟨g.set (g.pf f h) (.inr rfl), (Gr.refl g.fh).set (g.pf f h) (.inr rfl)⟩
theorem MOk.set {M : Mach} {R S i j : Nat} {row : List Ent} {e : Ent} (h : MOk M R S) (hr : M[i]? = some row) (he : EOk R S e) : MOk (M.set i (row.set j e)) R S := by
  have mr := List.mem_of_getElem? hr
  refine ⟨h.r1, h.r4, h.s2, h.s4, by rw [List.length_set]; exact h.len, fun r z => ?_, fun r z e' z' => ?_⟩
  · rcases List.mem_or_eq_of_mem_set z with z | rfl
    · exact h.row r z
    · rw [List.length_set]; exact h.row row mr
  · rcases List.mem_or_eq_of_mem_set z with z | rfl
    · exact h.ent r z e' z'
    · rcases List.mem_or_eq_of_mem_set z' with z' | rfl
      · exact h.ent row mr e' z'
      · exact he
def sp_is_entry : Sp := fun vs H Q _ => ∃ (F : Hp) (v : V) (e : Ent) (R S : Nat), vs = [v, .int R, .int S] ∧ Same F H ∧ Is F v e ∧ EOk R S e ∧ ∀ H', Gr mu0 F H F H' → Q (.bl true) H'
theorem ok_is_entry (t : Tx K mg) : FnOk P w K mg base CX0 1 t.a_is_entry t.fd_is_entry ["entry", "rows", "signs"] sp_is_entry := by
  refine t.F_is_entry.ok sc_is_entry (fun vs H Q E h => ?_) (fun cdv A outer s H vs Q E hr h => ?_)
  · obtain ⟨F, v, e, R, S, rfl, _⟩ := h
    rfl
  · obtain ⟨F, v, e, R, S, rfl, sF, hv, he, q⟩ := h
    refine ⟨_, (pss_cons (ps_if (pt_cmpR (op_eqD hr.units) (pv 0) (pe_tup pa_nil) (nomark _)) (pss_one (ps_ret pe_bl)) pss_nil)
      (pss_one (ps_ret (pe_and (pe_cmpR op_eq (pe_callB (id := "len") call_lenQ (by rfl) t.n_len (by decide +kernel) (pa_cons (pv 0) pa_nil)) pe_int (nomark _)) (pe_and (pe_chain op_le op_lt pe_int (pe_ix ix_tup (pv 0) pe_int (fun _ _ => rfl)) (pv 2)) (pe_and (pe_cmpR op_in_seq (pe_ix ix_tup (pv 0) pe_int (fun _ _ => rfl)) (pe_lst (pa_cons (pe_un un_neg pe_int) (pa_cons pe_int pa_nil))) (by rfl)) (pe_one (pe_chain op_le op_lt pe_int (pe_ix ix_tup (pv 0) pe_int (fun _ _ => rfl)) (pv 1))))))))), ?_⟩
    have g0 : Gr mu0 F H F H := Gr.refl sF
    refine ⟨_, rfl, by show 0 ≤ sizeLine; decide, fun p np => ?_⟩
    have g1 : Gr mu0 F H F (upd H p (.tup [])) := g0.own np
    refine eq_dat (a := e) (b := Ent.emp) (hv.up g1.fh) ⟨p, rfl, upd_same⟩ ?_
    refine ⟨_, rfl, ?_⟩
    refine ite2 (fun c => ?_) (fun c => ?_)
    · exact q _ g1
    · cases e with
      | emp => exact absurd (decide_eq_true rfl) c
      | go pu wa ro =>
        obtain ⟨a, rfl, ha⟩ := hv
        obtain ⟨⟨o1, o2⟩, o3, o4, o5⟩ := he.ok _ _ _ rfl
        have h1 := g1.fh _ _ ha
        refine ⟨_, rfl, a, _, rfl, .inr (SqT.of h1), rfl, _, rfl, ifT rfl ?_⟩
        refine ⟨_, rfl, a, _, _, _, rfl, rfl, SqT.of h1, atI_nat (j := 0) rfl, _, _, rfl, rfl, _, rfl, ifT (decide_eq_true o1) ⟨_, rfl, _, _, rfl, rfl, _, rfl, ifT (decide_eq_true o2) ?_⟩⟩
        refine ⟨_, rfl, a, _, _, _, rfl, rfl, SqT.of h1, atI_nat (j := 1) rfl, _, rfl, two_le, fun l nl => ?_⟩
        have g2 := g1.own (o := .lst [.int (-1), .int 1]) nl
        have h2 := g2.fh _ _ ha
        refine ⟨l, _, rfl, .inl (SqL.of upd_same), rfl, rfl, _, rfl, ifT ?_ ?_⟩
        · rcases o3 with rfl | rfl <;> rfl
        · refine ⟨_, rfl, a, _, _, _, rfl, rfl, SqT.of h2, atI_nat (j := 2) rfl, _, _, rfl, rfl, _, rfl, ifT (decide_eq_true o4) ⟨_, rfl, _, _, rfl, rfl, ?_⟩⟩
          show Q (.bl (decide (ro < (R : Int)))) _
          rw [decide_eq_true o5]
          exact q _ g2
/-- all bools of a list of trues -/
theorem all_rep (n : Nat) : (List.replicate n true).all id = true := by simp
theorem map_rep (n : Nat) : (List.replicate n true).map V.bl = List.replicate n (V.bl true) := by simp
theorem rep_snoc (n : Nat) : List.replicate n (V.bl true) ++ [V.bl true] = List.replicate (n + 1) (V.bl true) := by
  rw [← List.replicate_succ']
def sp_is_machine : Sp := fun vs H Q _ => ∃ (F : Hp) (v : V) (M : Mach) (R S : Nat), vs = [v] ∧ Same F H ∧ Is F v M ∧ MOk M R S ∧ ∀ H', Gr mu0 F H F H' → Q (.bl true) H'
theorem ok_is_machine (t : Tx K mg) : FnOk P w K mg base CX0 2 t.a_is_machine t.fd_is_machine ["machine"] sp_is_machine := by
  refine t.F_is_machine.ok sc_is_machine (fun vs H Q E h => ?_) (fun cdv A outer s H vs Q E hr h => ?_)
  · obtain ⟨F, v, M, R, S, rfl, _⟩ := h
    rfl
  · obtain ⟨F, v, M, R, S, rfl, sF, hv, hM, q⟩ := h
    refine ⟨_, (pss_cons (ps_set (i := 1) sc_is_machine.nd rfl (by first | exact Or.inl rfl | exact Or.inr rfl) (pe_callB (id := "len") call_lenQ (by rfl) t.n_len (by decide +kernel) (pa_cons (pv 0) pa_nil)))
      (pss_cons (ps_if (pt_not (pt_chain op_le op_le pe_int (pv 1) (pe_glob (v := .int 4) (by rfl) t.m_MOST_ROWS_machines ⟨_, rfl⟩))) (pss_one (ps_ret pe_bl)) pss_nil)
      (pss_cons (ps_set (i := 2) sc_is_machine.nd rfl (by first | exact Or.inl rfl | exact Or.inr rfl) (pe_callB (id := "len") call_lenQ (by rfl) t.n_len (by decide +kernel) (pa_cons (pe_ix ix_list (pv 0) pe_int (fun _ _ => rfl)) pa_nil)))
      (pss_cons (ps_if (PW.pt (pw_or (pt_not (pt_chain op_le op_le pe_int (pv 2) (pe_glob (v := .int 4) (by rfl) t.m_MOST_SIGNS ⟨_, rfl⟩))) (pw_or1 (pt_not (pt_val (pe_callB (id := "all") (cr_all rfl) (by rfl) t.n_all (by decide +kernel) (pa_cons (pe_lc (own := [("row", 3)]) (g := gName 3) (tt := tYes) rfl sc_is_machine.nd (pi_list (pv 0)) (blkOk_by (N := N_is_machine) (sc := defScope s_is_machine) (by decide +kernel)) (fun _ _ _ _ _ => (pg_name (i := 3) sc_is_machine.nd rfl (by first | exact Or.inl rfl | exact Or.inr rfl))) (fun _ _ _ _ _ => pts_nil) (fun _ _ _ _ _ => (pe_cmpR op_eq (pe_callB (id := "len") (crK (K := K) (r := rLenQ) rfl call_lenQ) (by rfl) t.n_len (by decide +kernel) (pa_cons (pv 3) pa_nil)) (pv 2) (nomark _)))) pa_nil))))))) (pss_one (ps_ret pe_bl)) pss_nil)
      (pss_one (ps_ret (pe_callB (id := "all") (cr_all rfl) (by rfl) t.n_all (by decide +kernel) (pa_cons (pe_lc (own := [("row", 3)]) (g := gName 3) (tt := tYes) rfl sc_is_machine.nd (pi_list (pv 0)) (blkOk_by (N := N_is_machine) (sc := defScope s_is_machine) (by decide +kernel)) (fun _ _ _ _ _ => (pg_name (i := 3) sc_is_machine.nd rfl (by first | exact Or.inl rfl | exact Or.inr rfl))) (fun _ _ _ _ _ => pts_nil) (fun _ _ _ _ _ => (pe_callB (id := "all") (crK (K := K) (r := rAll) rfl (cr_all rfl)) (by rfl) t.n_all (by decide +kernel) (pa_cons (pe_lc (own := [("entry", 4)]) (g := gName 4) (tt := tYes) rfl sc_is_machine.nd (pi_listK (K := K) rfl (pv 3)) (blkOk_by (N := N_is_machine) (sc := { kind := PySem.ScopeKind.function, names := [(PySem.Str.ofString ".0", PySem.NameKind.local), (PySem.Str.ofString "row", PySem.NameKind.local), (PySem.Str.ofString "all", PySem.NameKind.globalImplicit), (PySem.Str.ofString "rows", PySem.NameKind.cell), (PySem.Str.ofString "signs", PySem.NameKind.cell)], isGenerator := false, isCoroutine := false }) (by decide +kernel)) (fun _ _ _ _ _ => (pg_name (i := 4) sc_is_machine.nd rfl (by first | exact Or.inl rfl | exact Or.inr rfl))) (fun _ _ _ _ _ => pts_nil) (fun _ _ _ _ _ => (pe_call (ok_is_entry t) (hr.mono (by decide)) (by rfl) t.m_is_entry t.F_is_entry.kp t.b_is_entry .nil pass0 (pa_cons (pv 4) (pa_cons (pv 1) (pa_cons (pv 2) pa_nil)))))) pa_nil)))) pa_nil)))))))), ?_⟩
    have g0 : Gr mu0 F H F H := Gr.refl sF
    have r1 := hM.r1
    have r4 := hM.r4
    have s2 := hM.s2
    have s4 := hM.s4
    obtain ⟨a, rs, rfl, ha, hrs⟩ := hv
    have lrs : rs.length = R := hrs.1.trans hM.len
    have h0 := sF _ _ ha
    have l0 : 0 < rs.length := by omega
    have hx0 : rs[0]? = some rs[0] := List.getElem?_eq_getElem l0
    obtain ⟨row0, hM0, hr0⟩ := hrs.get' hx0
    obtain ⟨a0, es0, e0, ha0, hes0⟩ := hr0
    have ls0 : es0.length = S := hes0.1.trans (hM.row _ (List.mem_of_getElem? hM0))
    have hb0 := sF _ _ ha0
    -- rows = len(machine); signs = len(machine[0])
    refine ⟨_, rfl, a, rs, rfl, .inl (SqL.of h0), _, rfl, _, _, rfl, rfl, _, rfl, ifT (decide_eq_true (by omega)) ⟨_, _, rfl, rfl, _, rfl, ?_⟩⟩
    refine ifF (by rw [decide_eq_true (show (rs.length : Int) ≤ 4 by omega)]; rfl) ?_
    refine ⟨_, rfl, a, rs, _, _, rfl, rfl, SqL.of h0, atI_nat (j := 0) hx0, ?_⟩
    rw [e0]
    refine ⟨a0, es0, rfl, .inl (SqL.of hb0), _, rfl, _, _, rfl, rfl, _, rfl, ifT (decide_eq_true (by omega)) ⟨_, _, rfl, rfl, _, rfl, ?_⟩⟩
    refine ifF (by rw [decide_eq_true (show (es0.length : Int) ≤ 4 by omega)]; rfl) ?_
    -- all([len(row) == signs for row in machine])
    refine ⟨_, rfl, a, rfl, ⟨_, SqL.of h0⟩, fun D nD => lc_list (K := K) (a := a) (xs := rs) (fun i G => Gr mu0 F H F G ∧ G D = some (.lst (List.replicate i (V.bl true)))) ⟨g0.own nD, upd_same⟩ (fun i G _ p => SqL.of (p.1.fh _ _ ha)) ?_ ?_⟩
    · rintro i x G hi ⟨gG, hD⟩
      obtain ⟨row, hMi, b, es, rfl, hb, hes⟩ := hrs.get' hi
      have ls : es.length = S := hes.1.trans (hM.row _ (List.mem_of_getElem? hMi))
      have il : i < rs.length := (List.getElem?_eq_some_iff.mp hi).1
      refine ⟨rfl, ?_⟩
      refine yes ⟨_, rfl, b, es, rfl, .inl (SqL.of (gG.fh _ _ hb)), _, rfl, rfl, _, hD, by rw [List.length_replicate]; exact lt_size (by omega), ?_⟩
      have e : (V.bl (decide (V.int (es.length : Int) = V.int (es0.length : Int)))) = V.bl true := by rw [ls, ls0]; simp
      rw [e, rep_snoc]
      exact ⟨gG.set (ne_of_none' sF nD) (.inl nD), upd_same⟩
    · rintro G ⟨gG, hD⟩
      refine ⟨D, List.replicate rs.length true, rfl, SqL.of (by rw [map_rep]; exact hD), _, rfl, ifF (by rw [all_rep]; rfl) ?_⟩
      -- all([all([is_entry(entry, rows, signs) for entry in row]) for row in machine])
      refine ⟨_, rfl, a, rfl, ⟨_, SqL.of (gG.fh _ _ ha)⟩, fun D1 nD1 => lc_list (K := K) (a := a) (xs := rs) (fun i G1 => Gr mu0 F H F G1 ∧ H D1 = none ∧ G1 D1 = some (.lst (List.replicate i (V.bl true)))) ⟨gG.own nD1, gG.th _ nD1, upd_same⟩ (fun i G1 _ p => SqL.of (p.1.fh _ _ ha)) ?_ ?_⟩
      · rintro i x G1 hi ⟨gG1, nH, hD1⟩
        obtain ⟨row, hMi, b, es, rfl, hb, hes⟩ := hrs.get' hi
        have ls : es.length = S := hes.1.trans (hM.row _ (List.mem_of_getElem? hMi))
        have il : i < rs.length := (List.getElem?_eq_some_iff.mp hi).1
        refine ⟨rfl, yes ⟨_, rfl, b, rfl, ⟨_, SqL.of (gG1.fh _ _ hb)⟩, fun D2 nD2 => lc_list (K := K) (a := b) (xs := es) (fun j G2 => Gr mu0 F H F G2 ∧ H D2 = none ∧ D1 ≠ D2 ∧ G2 D1 = some (.lst (List.replicate i (V.bl true))) ∧ G2 D2 = some (.lst (List.replicate j (V.bl true))))
          ⟨gG1.own nD2, gG1.th _ nD2, ne_of_none hD1 nD2, by rw [upd_ne (ne_of_none hD1 nD2)]; exact hD1, upd_same⟩ (fun j G2 _ p => SqL.of (p.1.fh _ _ hb)) ?_ ?_⟩⟩
        · rintro j y G2 hj ⟨gG2, nH2, d12, h1, h2⟩
          obtain ⟨e, hej, hye⟩ := hes.get' hj
          have jl : j < es.length := (List.getElem?_eq_some_iff.mp hj).1
          refine ⟨rfl, yes ⟨_, rfl, _, rfl, _, rfl, F, y, e, R, S, ?_, gG2.fh, hye, hM.ent _ (List.mem_of_getElem? hMi) _ (List.mem_of_getElem? hej), fun G3 g3 => ?_⟩⟩
          · rw [lrs, ls0]
            rfl
          · have gH3 := gG2.trans g3
            refine ⟨_, g3.fr _ _ h2 (fun z => z), by rw [List.length_replicate]; exact lt_size (by omega), ?_⟩
            rw [rep_snoc]
            exact ⟨gH3.set (sF.free nH2) (.inl nH2), nH2, d12, by rw [upd_ne d12]; exact g3.fr _ _ h1 (fun z => z), upd_same⟩
        · rintro G2 ⟨gG2, nH2, d12, h1, h2⟩
          refine ⟨D2, List.replicate es.length true, rfl, SqL.of (by rw [map_rep]; exact h2), ?_⟩
          refine ⟨_, h1, by rw [List.length_replicate]; exact lt_size (by omega), ?_⟩
          rw [all_rep, rep_snoc]
          exact ⟨gG2.set (sF.free nH) (.inl nH), nH, upd_same⟩
      · rintro G1 ⟨gG1, nH, hD1⟩
        refine ⟨D1, List.replicate rs.length true, rfl, SqL.of (by rw [map_rep]; exact hD1), ?_⟩
        rw [all_rep]
        exact q _ gG1
def sp_must_machine : Sp := fun vs H Q _ => ∃ (F : Hp) (v : V) (M : Mach) (R S : Nat), vs = [v] ∧ Same F H ∧ Is F v M ∧ MOk M R S ∧ ∀ H', Gr mu0 F H F H' → Q .non H'
theorem ok_must_machine (t : Tx K mg) : FnOk P w K mg base CX0 3 t.a_must_machine t.fd_must_machine ["machine"] sp_must_machine := by
  refine t.F_must_machine.ok sc_must_machine (fun vs H Q E h => ?_) (fun cdv A outer s H vs Q E hr h => ?_)
  · obtain ⟨F, v, M, R, S, rfl, _⟩ := h
    rfl
  · obtain ⟨F, v, M, R, S, rfl, sF, hv, hM, q⟩ := h
    refine ⟨_, (pss_one (ps_if (pt_not (pt_val (pe_call (ok_is_machine t) (hr.mono (by decide)) (by rfl) t.m_is_machine t.F_is_machine.kp t.b_is_machine .nil pass0 (pa_cons (pv 0) pa_nil)))) (pss_one ps_never) pss_nil)), ?_⟩
    exact ⟨_, rfl, F, _, M, R, S, rfl, sF, hv, hM, fun H' g => ⟨_, rfl, ifF rfl (q _ g)⟩⟩
/-! ### four -/
structure T4 (α β γ δ : Type) where
  a : α
  b : β
  c : γ
  d : δ
  deriving DecidableEq
instance [Dat α] [Dat β] [Dat γ] [Dat δ] : Dat (T4 α β γ δ) where
  rep := fun H v d => ∃ p x y z w, v = .ref p ∧ H p = some (.tup [x, y, z, w]) ∧ Is H x d.a ∧ Is H y d.b ∧ Is H z d.c ∧ Is H w d.d
  mono := fun s h => by
    obtain ⟨p, x, y, z, w, e, h, i, j, k, l⟩ := h
    exact ⟨p, x, y, z, w, e, s _ _ h, Is.up i s, Is.up j s, Is.up k s, Is.up l s⟩
  py := fun d => .tuple [Dat.py d.a, Dat.py d.b, Dat.py d.c, Dat.py d.d]
  dp := fun h => by
    obtain ⟨p, x, y, z, w, rfl, h, i, j, k, l⟩ := h
    exact .tup (SqT.of h) (.cons (Dat.dp i) (.cons (Dat.dp j) (.cons (Dat.dp k) (.cons (Dat.dp l) .nil))))
  can := fun d => by
    show (PyData.canLay0 (Dat.py d.a) && (PyData.canLay0 (Dat.py d.b) && (PyData.canLay0 (Dat.py d.c) && (PyData.canLay0 (Dat.py d.d) && true)))) = true
    rw [Dat.can, Dat.can, Dat.can, Dat.can]; rfl
  dep := max (Dat.dep α) (max (Dat.dep β) (max (Dat.dep γ) (Dat.dep δ))) + 1
  depth := fun d => by
    have h1 := Dat.depth d.a
    have h2 := Dat.depth d.b
    have h3 := Dat.depth d.c
    have h4 := Dat.depth d.d
    show max (PyData.depth (Dat.py d.a)) (max (PyData.depth (Dat.py d.b)) (max (PyData.depth (Dat.py d.c)) (max (PyData.depth (Dat.py d.d)) 0))) + 1 ≤ _
    omega
  eqv := fun a b => by
    obtain ⟨a, a', a'', a3⟩ := a; obtain ⟨b, b', b'', b3⟩ := b
    simp [PyData.eqv, PyData.eqvAll, Dat.eqv]
/-! ### words -/
/-- a text that may stand in a datum -/
structure TStr where
  x : Str
  ok : PyData.strOk x = true
  deriving DecidableEq
instance : Dat TStr where
  rep := fun _ v d => v = .str d.x
  mono := fun _ h => h
  py := fun d => .str d.x
  dp := fun h => h ▸ .str _
  can := fun d => d.ok
  dep := 0
  depth := fun _ => Nat.le_refl _
  eqv := fun a b => by
    obtain ⟨a, _⟩ := a; obtain ⟨b, _⟩ := b
    simp [PyData.eqv]
/-! ### an entry -/
def entAt (M : Mach) (r s : Int) : Ent := (((M[r.toNat]?).getD [])[s.toNat]?).getD .emp
theorem ent_of {M : Mach} {R S : Nat} (h : MOk M R S) {r s : Int} (r0 : 0 ≤ r) (r1 : r < R) (s0 : 0 ≤ s) (s1 : s < S) : ∃ row, M[r.toNat]? = some row ∧ row[s.toNat]? = some (entAt M r s) ∧ EOk R S (entAt M r s) := by
  have hr : r.toNat < M.length := by rw [h.len]; omega
  have e1 : M[r.toNat]? = some M[r.toNat] := List.getElem?_eq_getElem hr
  have hs : s.toNat < (M[r.toNat]).length := by rw [h.row _ (List.getElem_mem hr)]; omega
  have e2 : (M[r.toNat])[s.toNat]? = some (M[r.toNat])[s.toNat] := List.getElem?_eq_getElem hs
  have e3 : entAt M r s = (M[r.toNat])[s.toNat] := by
    unfold entAt
    rw [e1]
    show ((M[r.toNat])[s.toNat]?).getD Ent.emp = _
    rw [e2]; rfl
  exact ⟨_, e1, by rw [e3]; exact e2, by rw [e3]; exact h.ent _ (List.getElem_mem hr) _ (List.getElem_mem hs)⟩
/-! ### words, middles; dicts keyed by them -/
abbrev Wd := Tup Int
abbrev Md := T4 (Tup Int) Int Int (Tup Int)
section
variable {K : PySem.W.Frag} {mu : Addr → Prop} {F0 H0 F H : Hp} {a b : Addr} {l l1 l2 : List Int} {Q : VK}
theorem wd_ints {H : Hp} : ∀ {xs : List V} {s : List Int}, IsAll H xs s → xs = s.map V.int
  | [], [], _ => rfl
  | [], _ :: _, h => by have := h.1; simp at this
  | _ :: _, [], h => by have := h.1; simp at this
  | x :: xs, i :: s, h => by
    have e : x = V.int i := h.2 0 x i rfl rfl
    rw [List.map_cons, e, wd_ints (xs := xs) (s := s) ⟨by have := h.1; simpa using this, fun j y z p q => h.2 (j + 1) y z (by simpa using p) (by simpa using q)⟩]
theorem wd_all {H : Hp} (s : List Int) : IsAll H (s.map V.int) s := ⟨List.length_map .., fun i x y p q => by
  rw [List.getElem?_map, q] at p
  exact (Option.some.inj p).symm⟩
theorem wd_ref {v : V} {d : Wd} (h : Is F v d) : ∃ c, v = .ref c ∧ F c = some (.tup (d.l.map V.int)) := by
  obtain ⟨c, xs, e, h1, h2⟩ := h
  exact ⟨c, e, by rw [h1, wd_ints h2]⟩
theorem wd_is (h : F a = some (.tup (l.map V.int))) : Is F (.ref a) (⟨l⟩ : Wd) := ⟨a, _, rfl, h, wd_all l⟩
theorem cat_wd (g : Gr mu F0 H0 F H) (ha : F a = some (.tup (l1.map V.int))) (hb : F b = some (.tup (l2.map V.int))) (z : l1.length + l2.length ≤ 100000) (q : ∀ (F' H' : Hp) (c : Addr), Gr mu F0 H0 F' H' → Gr mu0 F H F' H' → F' c = some (.tup ((l1 ++ l2).map V.int)) → Q (.ref c) H') : rCatQ K (.ref a) (.ref b) H Q := by
  have h1 := SqT.of (K := K) (g.fh _ _ ha)
  have h2 := SqT.of (K := K) (g.fh _ _ hb)
  have k0 : Gr mu0 F H F H := Gr.refl g.fh
  cases l1 with
  | nil => exact catA_nil h1 h2 (by rw [List.length_map]; exact le_size (by omega)) (q F H b g k0 hb)
  | cons x l1 =>
    cases l2 with
    | nil =>
      unfold rCatQ
      exact ⟨a, b, _, _, rfl, rfl, h1, h2, by rw [List.length_map, List.length_map]; exact le_size (by omega), fun e => (nomatch e), fun _ _ => q F H a g k0 (by rw [List.append_nil]; exact ha), fun _ n => absurd rfl n⟩
    | cons y l2 =>
      refine catA_new h1 h2 (by rw [List.length_map, List.length_map]; exact le_size (by omega)) (fun e => nomatch e) (fun e => nomatch e) fun p np => ?_
      rw [← List.map_append]
      exact q _ _ p (g.new np) (k0.new np) upd_same
theorem sl_wd {lo hi : Option Int} {l' : List Int} (g : Gr mu F0 H0 F H) (ha : F a = some (.tup (l.map V.int))) (e : (l.drop (HT.sIx l.length 0 lo)).take (HT.sIx l.length l.length hi - HT.sIx l.length 0 lo) = l')
    (q : ∀ (F' H' : Hp) (c : Addr), Gr mu F0 H0 F' H' → Gr mu0 F H F' H' → F' c = some (.tup (l'.map V.int)) → Q (.ref c) H') : rSlQ K (.ref a) lo hi H Q := by
  have h1 := SqT.of (K := K) (g.fh _ _ ha)
  have k0 : Gr mu0 F H F H := Gr.refl g.fh
  have lm : (l.map V.int).length = l.length := List.length_map ..
  by_cases w : HT.sIx (l.map V.int).length 0 lo = 0 ∧ HT.sIx (l.map V.int).length (l.map V.int).length hi = (l.map V.int).length
  · refine slA_all h1 w (q F H a g k0 ?_)
    rw [lm] at w
    rw [w.1, w.2, List.drop_zero, Nat.sub_zero, List.take_length] at e
    rw [← e]
    exact ha
  · refine slA_cut h1 w fun p np => ?_
    have e2 : cutV (l.map V.int) lo hi = l'.map V.int := by
      unfold cutV
      rw [lm, ← List.map_drop, ← List.map_take, e]
    rw [e2]
    exact q _ _ p (g.new np) (k0.new np) upd_same
theorem cut_d1 (l : List Int) : (l.drop (HT.sIx l.length 0 (some 1))).take (HT.sIx l.length l.length none - HT.sIx l.length 0 (some 1)) = l.drop 1 := by
  have e1 : HT.sIx l.length 0 (some 1) = min 1 l.length := by
    simp only [HT.sIx]
    rw [if_neg (by decide)]
    rfl
  have e2 : HT.sIx l.length l.length none = l.length := rfl
  rw [e1, e2]
  cases l with
  | nil => rfl
  | cons x l =>
    rw [show min 1 (x :: l).length = 1 by rw [List.length_cons]; omega]
    exact List.take_of_length_le (by rw [List.length_drop]; omega)
theorem cut_dl (l : List Int) : (l.drop (HT.sIx l.length 0 none)).take (HT.sIx l.length l.length (some (-1)) - HT.sIx l.length 0 none) = l.dropLast := by
  have e1 : HT.sIx l.length 0 none = 0 := rfl
  have e2 : HT.sIx l.length l.length (some (-1)) = l.length - 1 := by
    simp only [HT.sIx]
    rw [if_pos (by decide)]
    omega
  rw [e1, e2, List.drop_zero, Nat.sub_zero, List.dropLast_eq_take]
theorem sl_wd1 (g : Gr mu F0 H0 F H) (ha : F a = some (.tup (l.map V.int))) (q : ∀ (F' H' : Hp) (c : Addr), Gr mu F0 H0 F' H' → Gr mu0 F H F' H' → F' c = some (.tup ((l.drop 1).map V.int)) → Q (.ref c) H') : rSlQ K (.ref a) (some 1) none H Q := sl_wd g ha (cut_d1 l) q
theorem sl_wdl (g : Gr mu F0 H0 F H) (ha : F a = some (.tup (l.map V.int))) (q : ∀ (F' H' : Hp) (c : Addr), Gr mu F0 H0 F' H' → Gr mu0 F H F' H' → F' c = some (.tup ((l.dropLast).map V.int)) → Q (.ref c) H') : rSlQ K (.ref a) none (some (-1)) H Q := sl_wd g ha (cut_dl l) q
end
instance {α β γ δ : Type} [Dat α] [Dat β] [Dat γ] [Dat δ] [Kd α] [Kd β] [Kd γ] [Kd δ] : Kd (T4 α β γ δ) := ⟨fun d => by
  show kable (.tuple [Dat.py d.a, Dat.py d.b, Dat.py d.c, Dat.py d.d]) = true
  rw [kable, kables, kables, kables, kables, kables, Kd.k, Kd.k, Kd.k, Kd.k]; rfl⟩
/-- a datum that stands as a thing of its own -/
class Rf (α : Type) [Dat α] : Prop where
  ref : ∀ {H : Hp} {v : V} {d : α}, Is H v d → ∃ b, v = .ref b
instance {α : Type} [Dat α] : Rf (Tup α) := ⟨fun h => by obtain ⟨a, _, e, _⟩ := h; exact ⟨a, e⟩⟩
instance {α β γ δ : Type} [Dat α] [Dat β] [Dat γ] [Dat δ] : Rf (T4 α β γ δ) := ⟨fun h => by obtain ⟨a, _, _, _, _, e, _⟩ := h; exact ⟨a, e⟩⟩
/-! a dict with these keys, in their order -/
section
variable {α : Type} [Dat α] {mu : Addr → Prop} {P : Program} {w : World} {F H F' H' : Hp} {d q : Addr} {ks : List α}
def KD (P : Program) (w : World) (F H : Hp) (d : Addr) (ks : List α) : Prop := F d = none ∧ ∃ L : DL α, H d = some (DictD P w d L) ∧ KeysD F L ∧ L.map (fun t => t.2.1) = ks
theorem KD.gr (h : KD P w F H d ks) (g : Gr mu F H F' H') (m : ¬ mu d) : KD P w F' H' d ks := by
  obtain ⟨f, L, h1, h2, h3⟩ := h
  refine ⟨?_, L, g.fr _ _ h1 m, fun t n => Is.up (h2 t n) g.ff, h3⟩
  cases e : F' d with
  | none => rfl
  | some z =>
    rcases g.nw d z e with k | k
    · rw [f] at k; cases k
    · rw [h1] at k; cases k
theorem KD.some (h : KD P w F H d ks) : ∃ o, H d = some o := let ⟨_, L, h1, _⟩ := h; ⟨_, h1⟩
theorem KD.ne {u : HO} (h : KD P w F H d ks) (n : F q = Option.some u) : d ≠ q := by
  rintro rfl
  rw [h.1] at n; cases n
end
section
variable {α : Type} [DecidableEq α]
def adK (ks : List α) (x : α) : List α := if x ∈ ks then ks else ks ++ [x]
def adKs (ks xs : List α) : List α := xs.foldl adK ks
theorem adK_in {ks : List α} {x : α} (h : x ∈ ks) : adK ks x = ks := if_pos h
theorem adK_new {ks : List α} {x : α} (h : x ∉ ks) : adK ks x = ks ++ [x] := if_neg h
theorem mem_adK {ks : List α} {x y : α} : y ∈ adK ks x ↔ y ∈ ks ∨ y = x := by
  unfold adK
  split
  · rename_i h
    exact ⟨.inl, fun z => z.elim id fun e => e ▸ h⟩
  · rw [List.mem_append, List.mem_singleton]
theorem adK_len (ks : List α) (x : α) : ks.length ≤ (adK ks x).length := by
  unfold adK
  split
  · exact Nat.le_refl _
  · rw [List.length_append]; omega
theorem adK_len1 (ks : List α) (x : α) : (adK ks x).length ≤ ks.length + 1 := by
  unfold adK
  split
  · omega
  · rw [List.length_append]; exact Nat.le_refl _
theorem adK_nd {ks : List α} {x : α} (h : ks.Nodup) : (adK ks x).Nodup := by
  unfold adK
  split
  · exact h
  · rename_i n
    rw [List.nodup_append]
    exact ⟨h, by simp, fun a m b m' e => n (by rw [List.mem_singleton] at m'; rw [← m', ← e]; exact m)⟩
theorem mem_adKs {y : α} : ∀ {xs ks : List α}, y ∈ adKs ks xs ↔ y ∈ ks ∨ y ∈ xs
  | [], ks => by simp [adKs]
  | x :: xs, ks => by
    show y ∈ adKs (adK ks x) xs ↔ _
    rw [mem_adKs, mem_adK, List.mem_cons, or_assoc]
theorem adKs_len : ∀ (xs ks : List α), ks.length ≤ (adKs ks xs).length
  | [], ks => Nat.le_refl _
  | x :: xs, ks => Nat.le_trans (adK_len ks x) (adKs_len xs (adK ks x))
theorem adKs_len1 : ∀ (xs ks : List α), (adKs ks xs).length ≤ ks.length + xs.length
  | [], ks => Nat.le_refl _
  | x :: xs, ks => by
    have h1 := adKs_len1 xs (adK ks x)
    have h2 := adK_len1 ks x
    show (adKs (adK ks x) xs).length ≤ _
    rw [List.length_cons]; omega
theorem adKs_nd : ∀ (xs : List α) {ks : List α}, ks.Nodup → (adKs ks xs).Nodup
  | [], _, h => h
  | _ :: xs, _, h => adKs_nd xs (adK_nd h)
theorem adKs_add (xs ks : List α) (x : α) : adKs ks (xs ++ [x]) = adK (adKs ks xs) x := by
  unfold adKs
  rw [List.foldl_append]; rfl
theorem hasD_memX (l : DL α) (x : α) : hasD l x = true ↔ x ∈ l.map fun t => t.2.1 := by
  unfold hasD
  rw [List.any_eq_true, List.mem_map]
  exact ⟨fun ⟨t, m, e⟩ => ⟨t, m, of_decide_eq_true e⟩, fun ⟨t, m, e⟩ => ⟨t, m, decide_eq_true e⟩⟩
theorem putD_keysX (l : DL α) (b : Addr) (x : α) (v : V) : (putD l b x v).map (fun t => t.2.1) = adK (l.map fun t => t.2.1) x := by
  unfold putD adK
  by_cases h : hasD l x = true
  · rw [if_pos h, if_pos ((hasD_memX l x).mp h), List.map_map]
    refine List.map_congr_left fun t _ => ?_
    show (if t.2.1 = x then (t.1, t.2.1, v) else t).2.1 = t.2.1
    split <;> rfl
  · rw [if_neg h, if_neg (fun z => h ((hasD_memX l x).mpr z)), List.map_append]; rfl
end
/-! ### put_new -/
def sp_put_new (P : Program) (w : World) : Sp := fun vs H Q _ => ∃ (α : Type) (i1 : Dat α) (i2 : DecidableEq α) (i3 : Kd α) (i4 : Rf α) (F : Hp) (d c : Addr) (ks xs : List α) (ys : List V), vs = [.ref d, .ref c] ∧ Same F H ∧ KD P w F H d ks ∧ F c = some (.lst ys) ∧ IsAll F ys xs ∧ ks.length + xs.length ≤ 100000 ∧ Dat.dep α ≤ 8 ∧
  ∀ H' : Hp, Gr (muP d) F H F H' → KD P w F H' d (adKs ks xs) → Q (.bl (decide (ks.length < (adKs ks xs).length))) H'
theorem ok_put_new (t : Tx K mg) : FnOk P w K mg base CX0 1 t.a_put_new t.fd_put_new ["found", "things"] (sp_put_new P w) := by
  refine t.F_put_new.ok sc_put_new (fun vs H Q E h => ?_) (fun cdv A outer s H vs Q E hr h => ?_)
  · obtain ⟨α, i1, i2, i3, i4, F, d, c, ks, xs, ys, rfl, _⟩ := h
    rfl
  · obtain ⟨α, i1, i2, i3, i4, F, d, c, ks, xs, ys, rfl, sF, hd, hc, hys, hl, hdp, q⟩ := h
    refine ⟨_, (pss_cons (ps_set (i := 2) sc_put_new.nd rfl (by first | exact Or.inl rfl | exact Or.inr rfl) pe_bl)
      (pss_cons (ps_for PassesOwn.never rfl (pi_list (pv 1)) (pg_name (i := 3) sc_put_new.nd rfl (by first | exact Or.inl rfl | exact Or.inr rfl)) (pss_one (ps_if (pt_cmp (pc_nnotin (units9 hr) (pv 3) (pv 0))) (pss_cons (ps_nput (units9 hr) (pv 0) (pv 3) pe_bl rfl)
      (pss_one (ps_set (i := 2) sc_put_new.nd rfl (by first | exact Or.inl rfl | exact Or.inr rfl) pe_bl))) pss_nil)))
      (pss_one (ps_ret (pv 2))))), ?_⟩
    have g0 : Gr (muP d) F H F H := Gr.refl sF
    refine ⟨_, rfl, c, rfl, ⟨_, SqL.of (sF _ _ hc)⟩, for_list (K := K) (a := c) (xs := ys) (fun i σ G => ∃ (v3 : Option V), σ = [some (.ref d), some (.ref c), some (.bl (decide (ks.length < (adKs ks (xs.take i)).length))), v3] ∧ Gr (muP d) F H F G ∧ KD P w F G d (adKs ks (xs.take i)))
      ⟨none, ?_, g0, hd⟩ (fun i σ G _ ⟨_, _, g, _⟩ => SqL.of (g.fh _ _ hc)) ?_ ?_⟩
    · rw [show adKs ks (xs.take 0) = ks from rfl, decide_eq_false (Nat.lt_irrefl _)]; rfl
    · rintro i y σ G hi ⟨v3, rfl, g, fd, L, hL, kL, eL⟩
      obtain ⟨x, hx, ix⟩ := hys.get' hi
      have il : i < xs.length := (List.getElem?_eq_some_iff.mp hx).1
      obtain ⟨b, rfl⟩ := Rf.ref ix
      have st : xs.take (i + 1) = xs.take i ++ [x] := by rw [List.take_add_one, hx]; rfl
      have le1 := adKs_len1 (xs.take i) ks
      rw [List.length_take] at le1
      have lL : L.length = (adKs ks (xs.take i)).length := by rw [← eL, List.length_map]
      have ge1 := adKs_len (xs.take i) ks
      refine ⟨_, rfl, _, rfl, d, _, rfl, NGet.d (x := x) hL (kL.up g.fh) (ix.up g.fh) (hl := hdp), ?_⟩
      rw [valN_neL]
      refine ⟨_, rfl, ?_⟩
      by_cases m : x ∈ adKs ks (xs.take i)
      · have hm : hasD L x = true := (hasD_memX L x).mpr (by rw [eL]; exact m)
        refine ifF (by rw [hm]; rfl) ?_
        refine ⟨some (.ref b), ?_, g, ?_⟩
        · rw [st, adKs_add, adK_in m]; rfl
        · rw [st, adKs_add, adK_in m]
          exact ⟨fd, L, hL, kL, eL⟩
      · have hm : hasD L x = false := Bool.eq_false_iff.mpr fun z => m (by rw [← eL]; exact (hasD_memX L x).mp z)
        refine ifT (by rw [hm]; rfl) ?_
        refine ⟨_, rfl, _, rfl, d, _, rfl, NPut.d (x := x) hL (kL.up g.fh) (ix.up g.fh) (lt_size (by omega)) (hl := hdp), ?_⟩
        refine ⟨some (.ref b), ?_, g.set fd (.inr rfl), ?_⟩
        · have e : decide (ks.length < (adKs ks (xs.take (i + 1))).length) = true := by
            rw [st, adKs_add, adK_new m, List.length_append, List.length_singleton]
            exact decide_eq_true (by omega)
          rw [e]; rfl
        · rw [st, adKs_add]
          exact ⟨fd, _, upd_same, kL.put ix, by rw [putD_keysX, eL]⟩
    · rintro σ G ⟨v3, rfl, g, kd⟩
      rw [hys.1, List.take_length] at kd ⊢
      exact ⟨_, rfl, q _ g kd⟩
/-! ### words sorted: none of them is empty -/
structure NWd where
  h : Int
  t : List Int
  deriving DecidableEq
def NWd.to (d : NWd) : Wd := ⟨d.h :: d.t⟩
def NWd.of (x : Wd) : NWd := ⟨x.l.headD 0, x.l.tail⟩
theorem NWd.to_of {x : Wd} (h : x.l ≠ []) : (NWd.of x).to = x := by
  obtain ⟨l⟩ := x
  cases l with
  | nil => exact absurd rfl h
  | cons a l => rfl
theorem NWd.inj {a b : NWd} (h : a.to = b.to) : a = b := by
  obtain ⟨a, s⟩ := a; obtain ⟨b, u⟩ := b
  have h : a :: s = b :: u := congrArg Tup.l h
  cases h; rfl
instance : Dat NWd where
  rep := fun H v d => Is H v d.to
  mono := fun s h => Is.up h s
  py := fun d => Dat.py d.to
  dp := fun h => Dat.dp (α := Wd) h
  can := fun d => Dat.can d.to
  dep := Dat.dep Wd
  depth := fun d => Dat.depth d.to
  eqv := fun a b => by rw [Dat.eqv]; exact ⟨NWd.inj, fun e => by rw [e]⟩
instance : Lk NWd := ⟨fun a b => Lk.k a.to b.to⟩
instance : So NWd := ⟨.inl fun d => ⟨_, _, rfl⟩⟩
instance {α β γ δ : Type} [Dat α] [Dat β] [Dat γ] [Dat δ] [Lk α] [Lk β] [Lk γ] [Lk δ] : Lk (T4 α β γ δ) := ⟨fun a b => by
  show PySem.W.alike (.tuple [Dat.py a.a, Dat.py a.b, Dat.py a.c, Dat.py a.d]) (.tuple [Dat.py b.a, Dat.py b.b, Dat.py b.c, Dat.py b.d]) = true
  rw [PySem.W.alike, PySem.W.alikeAll, PySem.W.alikeAll, PySem.W.alikeAll, PySem.W.alikeAll, PySem.W.alikeAll, Lk.k, Lk.k, Lk.k, Lk.k]; rfl⟩
instance {α β γ δ : Type} [Dat α] [Dat β] [Dat γ] [Dat δ] : So (T4 α β γ δ) := ⟨.inl fun _ => ⟨_, _, rfl⟩⟩
theorem sort_to (l : List NWd) : (sortD l).map NWd.to = sortD (l.map NWd.to) := by
  unfold sortD
  exact List.map_mergeSort (fun a _ b _ => rfl)
theorem rSortDN.wd {X : Cx} {P : Program} {w : World} {F H : Hp} {Q : VK} {a : Addr} {ks : List Wd} (sF : Same F H) (h : KD P w F H a ks) (ne : ∀ x ∈ ks, x.l ≠ []) (q : ∀ (ys : List V) (p : Addr), IsAll F ys (sortD ks) → H p = none → Q (.ref p) (upd H p (.lst ys))) (hP : X.prog = P := by rfl) (hw : X.w = w := by rfl) : rSortDN X [.ref a] H Q := by
  obtain ⟨f, L, h1, h2, h3⟩ := h
  have h3 : L.map (fun t => t.2.1) = ks := h3
  have nL : ∀ t ∈ L, t.2.1.l ≠ [] := fun t m => ne _ (h3 ▸ List.mem_map.mpr ⟨t, m, rfl⟩)
  have e : neL (L.map fun t => (t.1, NWd.of t.2.1, t.2.2) : DL NWd) = neL L := by
    unfold neL
    rw [List.map_map]
    refine List.map_congr_left fun t m => ?_
    show (keyD (Dat.py (NWd.of t.2.1).to), t.1, t.2.2) = _
    rw [NWd.to_of (nL t m)]
  refine rSortDN.mk (P := P) (w := w) (l := (L.map fun t => (t.1, NWd.of t.2.1, t.2.2) : DL NWd)) sF (by rw [h1]; unfold DictD; rw [e]) (fun t m => ?_) (fun ys p al n => q ys p ?_ n) (by decide) hP hw
  · obtain ⟨t0, m0, rfl⟩ := List.mem_map.mp m
    show Is F (.ref t0.1) (NWd.of t0.2.1).to
    rw [NWd.to_of (nL t0 m0)]
    exact h2 t0 m0
  · have e2 : (sortD ((L.map fun t => (t.1, NWd.of t.2.1, t.2.2) : DL NWd).map (·.2.1))).map NWd.to = sortD ks := by
      rw [sort_to, List.map_map, List.map_map]
      congr 1
      rw [← h3]
      refine List.map_congr_left fun t m => ?_
      exact NWd.to_of (nL t m)
    rw [← e2]
    refine ⟨by rw [List.length_map]; exact al.1, fun i x y hx hy => ?_⟩
    rw [List.getElem?_map] at hy
    obtain ⟨d, hd, rfl⟩ := Option.map_eq_some_iff.mp hy
    exact al.2 i x d hx hd
theorem rSortDN.kd {α : Type} [Dat α] [Lk α] [So α] {X : Cx} {P : Program} {w : World} {F H : Hp} {Q : VK} {a : Addr} {ks : List α} (sF : Same F H) (h : KD P w F H a ks) (q : ∀ (ys : List V) (p : Addr), IsAll F ys (sortD ks) → H p = none → Q (.ref p) (upd H p (.lst ys))) (hd : Dat.dep α ≤ 64 := by decide) (hP : X.prog = P := by rfl) (hw : X.w = w := by rfl) : rSortDN X [.ref a] H Q := by
  obtain ⟨f, L, h1, h2, h3⟩ := h
  exact rSortDN.mk (P := P) (w := w) sF h1 h2 (fun ys p al n => q ys p (by rw [← h3]; exact al) n) hd hP hw
/-- (0,) times a number from 1 on -/
def rRepW (K : PySem.W.Frag) : R2 := fun x y H Q => ∃ l xs k, x = .ref l ∧ y = .int k ∧ SqT K H l xs ∧ xs ≠ [] ∧ 1 ≤ k ∧ k ≤ 1000 ∧ xs.length ≤ 1000 ∧ (k = 1 → Q (.ref l) H) ∧ (2 ≤ k → ∀ p, H p = none → Q (.ref p) (upd H p (.tup (List.replicate k.toNat xs).flatten)))
theorem op_repW {X : Cx} : OpR X (binaryOp .Mult) (rRepW X.K) := by
  intro pins s σ H x y v u Q I rx ry h
  obtain ⟨l, xs, k, e1, e2, hT, hne, k1, k2, hl, q1, q2⟩ := h
  by_cases c : k = 1
  · exact op_rep01 pins s σ H x y v u Q I rx ry ⟨l, k, xs, e1, e2, hT, hne, .inl ⟨c, q1 c⟩⟩
  · exact op_repT pins s σ H x y v u Q I rx ry ⟨l, k, xs, e1, e2, hT, hne, by omega, k2, hl, q2 (by omega)⟩
theorem flat_wd (k : Nat) : (List.replicate k [V.int 0]).flatten = (List.replicate k (0 : Int)).map V.int := by
  induction k with
  | zero => rfl
  | succ k ih => rw [List.replicate_succ, List.replicate_succ, List.flatten_cons, List.map_cons, ih]; rfl
theorem rep_wd {K : PySem.W.Frag} {mu : Addr → Prop} {F0 H0 F H : Hp} {a : Addr} {k : Nat} {Q : VK} (g : Gr mu F0 H0 F H) (ha : F a = some (.tup [.int 0])) (k1 : 1 ≤ k) (k2 : k ≤ 1000)
    (q : ∀ (F' H' : Hp) (c : Addr), Gr mu F0 H0 F' H' → Gr mu0 F H F' H' → F' c = some (.tup ((List.replicate k (0 : Int)).map V.int)) → Q (.ref c) H') : rRepW K (.ref a) (.int k) H Q := by
  refine ⟨a, _, k, rfl, rfl, SqT.of (g.fh _ _ ha), (fun z => nomatch z), by omega, by omega, by decide, fun e => ?_, fun _ p np => ?_⟩
  · refine q F H a g (Gr.refl g.fh) ?_
    rw [show k = 1 by omega]
    exact ha
  · rw [Int.toNat_natCast, flat_wd]
    exact q _ _ p (g.new np) ((Gr.refl g.fh).new np) upd_same
/-! ### shut sets: what the program does with them -/
def entM (M : Mach) (m : Md) : Ent := entAt M m.b m.c
def nw1 (m : Md) (p : Int) : Wd := ⟨m.a.l.drop 1 ++ [p]⟩
def nw2 (m : Md) (p : Int) : Wd := ⟨p :: m.d.l.dropLast⟩
def mv1 (m : Md) (p t : Int) (y : Wd) : Md := ⟨nw1 m p, t, m.d.l.headD 0, y⟩
def mv2 (m : Md) (p t : Int) (y : Wd) : Md := ⟨y, t, m.a.l.getLastD 0, nw2 m p⟩
def more1 (m : Md) (p t : Int) (B : List Wd) : List Md := (B.filter fun y => decide (y.l.dropLast = m.d.l.drop 1)).map (mv1 m p t)
def more2 (m : Md) (p t : Int) (A : List Wd) : List Md := (A.filter fun y => decide (y.l.drop 1 = m.a.l.dropLast)).map (mv2 m p t)
theorem more1_add (m : Md) (p t : Int) (B : List Wd) (y : Wd) : more1 m p t (B ++ [y]) = more1 m p t B ++ (if y.l.dropLast = m.d.l.drop 1 then [mv1 m p t y] else []) := by
  unfold more1
  rw [List.filter_append, List.map_append]
  congr 1
  by_cases h : y.l.dropLast = m.d.l.drop 1
  · rw [if_pos h, List.filter_cons]; rw [if_pos (decide_eq_true h)]; rfl
  · rw [if_neg h, List.filter_cons]; rw [if_neg (fun z => h (of_decide_eq_true z))]; rfl
theorem more2_add (m : Md) (p t : Int) (B : List Wd) (y : Wd) : more2 m p t (B ++ [y]) = more2 m p t B ++ (if y.l.drop 1 = m.a.l.dropLast then [mv2 m p t y] else []) := by
  unfold more2
  rw [List.filter_append, List.map_append]
  congr 1
  by_cases h : y.l.drop 1 = m.a.l.dropLast
  · rw [if_pos h, List.filter_cons]; rw [if_pos (decide_eq_true h)]; rfl
  · rw [if_neg h, List.filter_cons]; rw [if_neg (fun z => h (of_decide_eq_true z))]; rfl
theorem more1_len (m : Md) (p t : Int) (B : List Wd) : (more1 m p t B).length ≤ B.length := by
  unfold more1; rw [List.length_map]; exact List.length_filter_le ..
theorem more2_len (m : Md) (p t : Int) (B : List Wd) : (more2 m p t B).length ≤ B.length := by
  unfold more2; rw [List.length_map]; exact List.length_filter_le ..
theorem last_at {l : List Int} (h : 1 ≤ l.length) : atI (l.map V.int) (-1) = some (.int (l.getLastD 0)) := by
  have e : l ≠ [] := by rintro rfl; simp at h
  obtain ⟨ys, y, rfl⟩ : ∃ ys y, l = ys ++ [y] := ⟨l.dropLast, l.getLast e, (List.dropLast_concat_getLast e).symm⟩
  rw [List.map_append, List.map_singleton, atI_last, List.getLastD_concat]
theorem head_at {l : List Int} (h : 1 ≤ l.length) : atI (l.map V.int) ((0 : Nat) : Int) = some (.int (l.headD 0)) := by
  cases l with
  | nil => simp at h
  | cons x l => exact atI_nat (j := 0) rfl
theorem len4 : 4 ≤ sizeLine := by decide
/-! a dict locked -/
section
variable {F H F' H' : Hp} {d : Addr} {u z : HO}
theorem lk_gr (g : Gr mu0 F H F' H') (h : H d = some u) (f : F' d = none) : Gr mu0 F (upd H d z) F' (upd H' d z) where
  ff := g.ff
  fh := fun c o e => by rw [upd_ne (ne_of_none e f)]; exact g.fh c o e
  nw := fun c o e => by
    rcases g.nw c o e with k | k
    · exact .inl k
    · by_cases cd : c = d
      · subst cd; rw [h] at k; cases k
      · exact .inr (by rw [upd_ne cd]; exact k)
  fr := fun c o e m => by
    by_cases cd : c = d
    · subst cd; rw [upd_same] at e ⊢; exact e
    · rw [upd_ne cd] at e ⊢; exact g.fr c o e m
  th := fun c e => by
    by_cases cd : c = d
    · subst cd; rw [upd_same] at e; cases e
    · rw [upd_ne cd] at e ⊢; exact g.th c e
theorem lk_out (h : H d = some u) (f : F d = none) (g : Gr mu0 F (upd H d z) F' H') : H' d = some z ∧ F' d = none ∧ Gr mu0 F H F' (upd H' d u) := by
  have hz : H' d = some z := g.fr d z upd_same (fun z => z)
  have f' : F' d = none := by
    cases e : F' d with
    | none => rfl
    | some y =>
      rcases g.nw d y e with k | k
      · rw [f] at k; cases k
      · rw [upd_same] at k; cases k
  refine ⟨hz, f', g.ff, fun c o e => ?_, fun c o e => ?_, fun c o e m => ?_, fun c e => ?_⟩
  · rw [upd_ne (ne_of_none e f')]; exact g.fh c o e
  · rcases g.nw c o e with k | k
    · exact .inl k
    · by_cases cd : c = d
      · subst cd; rw [upd_same] at k; cases k
      · rw [upd_ne cd] at k; exact .inr k
  · by_cases cd : c = d
    · subst cd; rw [upd_same]; rw [h] at e; exact e
    · rw [upd_ne cd]; exact g.fr c o (by rw [upd_ne cd]; exact e) m
  · by_cases cd : c = d
    · subst cd; rw [upd_same] at e; cases e
    · rw [upd_ne cd] at e
      have k := g.th c e
      rw [upd_ne cd] at k; exact k
end
theorem neL_len {α : Type} [Dat α] (L : DL α) : (neL L).length = L.length := by unfold neL; rw [List.length_map]
theorem neL_at {α : Type} [Dat α] {L : DL α} {i : Nat} {t : Ne} (h : (neL L)[i]? = some t) : ∃ x, L[i]? = some x ∧ t.2.1 = x.1 := by
  unfold neL at h
  rw [List.getElem?_map] at h
  obtain ⟨x, e1, e2⟩ := Option.map_eq_some_iff.mp h
  exact ⟨x, e1, by rw [← e2]⟩
def sp_entry_for : Sp := fun vs H Q _ => ∃ (F : Hp) (m x : V) (M : Mach) (R S : Nat) (md : Md), vs = [m, x] ∧ Same F H ∧ Is F m M ∧ MOk M R S ∧ Is F x md ∧ 0 ≤ md.b ∧ md.b < R ∧ 0 ≤ md.c ∧ md.c < S ∧ ∀ v, Is F v (entM M md) → EOk R S (entM M md) → Q v H
theorem ok_entry_for (t : Tx K mg) : FnOk P w K mg base CX0 1 t.a_entry_for t.fd_entry_for ["machine", "middle"] sp_entry_for := by
  refine t.F_entry_for.ok sc_entry_for (fun vs H Q E h => ?_) (fun cdv A outer s H vs Q E hr h => ?_)
  · obtain ⟨F, m, x, M, R, S, md, rfl, _⟩ := h
    rfl
  · obtain ⟨F, m, x, M, R, S, md, rfl, sF, hm, hM, hx, b0, b1, c0, c1, q⟩ := h
    refine ⟨_, (pss_one (ps_ret (pe_ix ix_list (pe_ix ix_list (pv 0) (pe_ix ix_tup (pv 1) pe_int (fun _ _ => rfl)) (fun _ _ => rfl)) (pe_ix ix_tup (pv 1) pe_int (fun _ _ => rfl)) (fun _ _ => rfl)))), ?_⟩
    obtain ⟨am, rws, rfl, ham, hrs⟩ := id hm
    obtain ⟨p0, x0, x1, x2, x3, rfl, hp, i0, i1, i2, i3⟩ := id hx
    have i1 : x1 = .int md.b := i1
    have i2 : x2 = .int md.c := i2
    subst i1 i2
    obtain ⟨row, e1, e2, eo⟩ := ent_of hM b0 b1 c0 c1
    obtain ⟨v1, h1, ⟨ar, es, e, har, hes⟩⟩ := hrs.get e1
    subst e
    obtain ⟨v2, h2, ie⟩ := hes.get e2
    have hT := SqT.of (K := K) (sF _ _ hp)
    have a1 : atI rws md.b = some (.ref ar) := by
      have := atI_nat h1
      rwa [Int.toNat_of_nonneg b0] at this
    have a2 : atI es md.c = some v2 := by
      have := atI_nat h2
      rwa [Int.toNat_of_nonneg c0] at this
    exact ⟨_, rfl, _, rfl, p0, _, _, _, rfl, rfl, hT, atI_nat (j := 1) rfl, am, rws, _, _, rfl, rfl, SqL.of (sF _ _ ham), a1, _, rfl, p0, _, _, _, rfl, rfl, hT, atI_nat (j := 2) rfl, ar, es, _, _, rfl, rfl, SqL.of (sF _ _ har), a2, q _ ie eo⟩
def sp_led_right (P : Program) (w : World) : Sp := fun vs H Q _ => ∃ (F : Hp) (x : V) (md : Md) (p r : Int) (d : Addr) (B : List Wd), vs = [x, .int p, .int r, .ref d] ∧ Same F H ∧ Is F x md ∧ KD P w F H d B ∧ 1 ≤ md.d.l.length ∧ md.a.l.length ≤ 1000 ∧ B.length ≤ 100000 ∧
  ∀ (F' H' : Hp) (T c : Addr) (wv : V) (ys : List V), Gr mu0 F H F' H' → F' T = some (.tup [wv, .ref c]) → Is F' wv (nw1 md p) → F' c = some (.lst ys) → IsAll F' ys (more1 md p r B) → Q (.ref T) H'
theorem ok_led_right (t : Tx K mg) : FnOk P w K mg base CX0 1 t.a_led_right t.fd_led_right ["middle", "put", "row", "rights"] (sp_led_right P w) := by
  refine t.F_led_right.ok sc_led_right (fun vs H Q E h => ?_) (fun cdv A outer s H vs Q E hr h => ?_)
  · obtain ⟨F, x, md, p, r, d, B, rfl, _⟩ := h
    rfl
  · obtain ⟨F, x, md, p, r, d, B, rfl, sF, hx, hd, l1, l2, lB, q⟩ := h
    refine ⟨_, (pss_cons (ps_asg (pv 0) (pg_tup rfl (pgs_cons (pg_name (i := 4) sc_led_right.nd rfl (by first | exact Or.inl rfl | exact Or.inr rfl)) (pgs_cons (pg_name (i := 5) sc_led_right.nd rfl (by first | exact Or.inl rfl | exact Or.inr rfl)) (pgs_cons (pg_name (i := 6) sc_led_right.nd rfl (by first | exact Or.inl rfl | exact Or.inr rfl)) (pgs_cons (pg_name (i := 7) sc_led_right.nd rfl (by first | exact Or.inl rfl | exact Or.inr rfl)) pgs_nil))))))
      (pss_cons (ps_set (i := 8) sc_led_right.nd rfl (by first | exact Or.inl rfl | exact Or.inr rfl) (pe_op op_catQ (pe_slice sl_tupQ (pv 4) (po_some pe_int) po_none) (pe_tup (pa_cons (pv 1) pa_nil))))
      (pss_cons (ps_set (i := 9) sc_led_right.nd rfl (by first | exact Or.inl rfl | exact Or.inr rfl) (pe_lst pa_nil))
      (pss_cons (ps_lock (ps_for PassesOwn.never rfl (pi_keysN (pv 3)) (pg_name (i := 10) sc_led_right.nd rfl (by first | exact Or.inl rfl | exact Or.inr rfl)) (pss_one (ps_if (pt_cmpR (op_eqD hr.units) (pe_slice sl_tupQ (pv 10) po_none (po_some (pe_un un_neg pe_int))) (pe_slice sl_tupQ (pv 7) (po_some pe_int) po_none) (nomark _)) (pss_one (ps_expr (pe_bm PySem.F.plainAttrs_list PySem.F.slot_list_append PySem.F.type_list_append mt_append (pv 9) (pa_cons (pe_tup (pa_cons (pv 8) (pa_cons (pv 2) (pa_cons (pe_ix ix_tup (pv 7) pe_int (fun _ _ => rfl)) (pa_cons (pv 10) pa_nil))))) pa_nil)))) pss_nil))))
      (pss_one (ps_ret (pe_tup (pa_cons (pv 8) (pa_cons (pv 9) pa_nil))))))))), ?_⟩
    have g0 : Gr mu0 F H F H := Gr.refl sF
    obtain ⟨p0, x0, x1, x2, x3, rfl, hp, i0, i1, i2, i3⟩ := id hx
    obtain ⟨a1, rfl, ha⟩ := wd_ref i0
    obtain ⟨a2, rfl, hb⟩ := wd_ref i3
    refine ⟨_, rfl, p0, _, rfl, SqT.of (sF _ _ hp), rfl, _, _, rfl, _, _, rfl, _, _, rfl, _, _, rfl, rfl, ?_⟩
    refine ⟨_, rfl, _, rfl, sl_wd1 g0 ha fun F1 H1 c1 g1 k1 hc1 => ?_⟩
    refine ⟨_, rfl, one_le, fun p1 np1 => ?_⟩
    have g2 := g1.new (o := .tup ([p].map V.int)) np1
    have hc1 := (Gr.refl (mu := mu0) g1.fh).new (o := .tup ([p].map V.int)) np1 |>.ff _ _ hc1
    refine cat_wd (l1 := md.a.l.drop 1) (l2 := [p]) g2 hc1 upd_same (by rw [List.length_drop, List.length_singleton]; omega) fun F3 H3 c3 g3 k3 hc3 => ?_
    refine ⟨nil_le, fun c nc => ?_⟩
    have g4 := g3.own (o := .lst []) nc
    have w4 : Ow H F3 (upd H3 c (.lst [])) c (.lst []) := Ow.mk1 g3 nc
    have f4 := (hd.gr g4 (fun z => z)).1
    obtain ⟨_, L, hL0, kL, eL⟩ := id hd
    have kL := kL.up g4.ff
    have hL := g4.fr _ _ hL0 (fun z => z)
    generalize upd H3 c (.lst []) = H4 at g4 w4 hL ⊢
    have lL : (neL L).length = B.length := by rw [neL_len, ← eL, List.length_map]
    refine ⟨d, _, hL, trivial, fun od => ?_⟩
    have dc : c ≠ d := by
      rintro rfl
      rw [w4.h] at hL; cases hL
    have g5 := lk_gr (z := .frz od (DictD P w d L)) g4 hL0 f4
    have hz : (upd H4 d (.frz od (DictD P w d L))) d = some (.frz od (DictD P w d L)) := upd_same
    have w5 : Ow (upd H d (.frz od (DictD P w d L))) F3 (upd H4 d (.frz od (DictD P w d L))) c (.lst []) := ⟨by rw [upd_ne dc]; exact w4.n, w4.f, by rw [upd_ne dc]; exact w4.h⟩
    have hz0 : (upd H d (.frz od (DictD P w d L))) d = some (.frz od (DictD P w d L)) := upd_same
    generalize eH : upd H4 d (.frz od (DictD P w d L)) = Hl at g5 hz w5 ⊢
    generalize eH0 : upd H d (.frz od (DictD P w d L)) = Hz at g5 w5 hz0
    refine ⟨_, rfl, d, od, _, rfl, hz, for_it walk_keysN (fun i σ G => ∃ (F5 : Hp) (ys : List V) (v10 : Option V), σ = [some (.ref p0), some (.int p), some (.int r), some (.ref d), some (.ref a1), some x1, some x2, some (.ref a2), some (.ref c3), some (.ref c), v10] ∧ Gr mu0 F Hz F5 G ∧ Same F3 F5 ∧ Ow Hz F5 G c (.lst ys) ∧ IsAll F5 ys (more1 md p r (B.take i)))
      ⟨F3, [], none, rfl, g5, Same.refl F3, w5, All2.nil⟩ (fun i σ G _ ⟨F5, ys, v10, _, g, _⟩ => g.fr _ _ hz0 (fun z => z)) ?_ ?_⟩
    · rintro i y σ G G' hi ⟨F5, ys, v10, rfl, g, gb, wo, al⟩ ⟨rfl, t0, ht0, rfl⟩
      rw [lL] at hi
      obtain ⟨⟨b, wd, vv⟩, hx, eb⟩ := neL_at ht0
      have hB : B[i]? = some wd := by rw [← eL, List.getElem?_map, hx]; rfl
      have iw : Is F3 (.ref b) wd := kL _ (List.mem_of_getElem? hx)
      rw [eb]
      have iw := Is.up iw gb
      obtain ⟨b', e, hw⟩ := wd_ref iw
      cases e
      have st : B.take (i + 1) = B.take i ++ [wd] := by rw [List.take_add_one, hB]; rfl
      refine ⟨_, rfl, _, rfl, _, rfl, sl_wdl g hw fun F6 H6 c6 g6 k6 hc6 => ?_⟩
      have hb6 := k6.ff _ _ (g.ff _ _ hb)
      refine ⟨_, rfl, _, rfl, sl_wd1 g6 hb6 fun F7 H7 c7 g7 k7 hc7 => ?_⟩
      refine eq_dat (a := (⟨wd.l.dropLast⟩ : Wd)) (b := ⟨md.d.l.drop 1⟩) (Is.up (wd_is (k7.ff _ _ hc6)) g7.fh) (Is.up (wd_is hc7) g7.fh) ⟨_, rfl, ?_⟩
      have gb7 := (gb.trans k6.ff).trans k7.ff
      have w7 := (wo.call k6 (fun z => z)).call k7 (fun z => z)
      have al7 := (IsAll.up al k6.ff).up k7.ff
      refine ite2 (fun c2 => ?_) (fun c2 => ?_)
      · have c2 : wd.l.dropLast = md.d.l.drop 1 := congrArg Tup.l (of_decide_eq_true c2)
        have hp4 := SqT.of (K := K) (g7.fh _ _ (g7.ff _ _ hb))
        refine ⟨_, rfl, .inl ⟨rfl, _, SqL.of w7.h⟩, _, rfl, _, rfl, _, rfl, a2, _, _, _, rfl, rfl, hp4, head_at l1, _, rfl, len4, fun T nT => ?_⟩
        have g8 := g7.new (o := .tup [.ref c3, .int r, .int (md.d.l.headD 0), .ref b]) nT
        have k8 := (Gr.refl (mu := mu0) g7.fh).new (o := .tup [.ref c3, .int r, .int (md.d.l.headD 0), .ref b]) nT
        have w8 := w7.new (u := .tup [.ref c3, .int r, .int (md.d.l.headD 0), .ref b]) nT
        have lm := more1_len md p r (B.take i)
        rw [List.length_take] at lm
        refine ⟨c, _, _, rfl, rfl, w8.h, lt_size (by rw [al.1]; omega), _, ys ++ [.ref T], _, rfl, g8.set w8.f (.inl w8.n), gb7.trans k8.ff, w8.set, ?_⟩
        rw [st, more1_add, if_pos c2]
        exact (IsAll.up al7 k8.ff).app (All2.one ⟨T, _, _, _, _, rfl, upd_same, Is.up (wd_is hc3) (gb7.trans k8.ff), rfl, rfl, Is.up (Is.up iw (k6.ff.trans k7.ff)) k8.ff⟩)
      · have c2 : ¬ wd.l.dropLast = md.d.l.drop 1 := fun z => of_decide_eq_false (Bool.eq_false_iff.mpr c2) (by rw [z])
        refine ⟨F7, ys, _, rfl, g7, gb7, w7, ?_⟩
        rw [st, more1_add, if_neg c2, List.append_nil]
        exact al7
    · rintro σ G ⟨F5, ys, v10, rfl, g, gb, wo, al⟩
      rw [lL, List.take_length] at al
      have e4 := lk_out (h := hL0) (f := hd.1) (eH0 ▸ g)
      obtain ⟨h1, f5, g6⟩ := e4
      refine ⟨h1, ?_⟩
      have wc : (upd G d (DictD P w d L)) c = some (.lst ys) := by rw [upd_ne dc]; exact wo.h
      have hn : H c = none := w4.n
      generalize upd G d (DictD P w d L) = G6 at g6 wc ⊢
      refine ⟨_, rfl, _, rfl, two_le, fun T nT => ?_⟩
      have g7 := g6.frz wc hn wo.f
      have gs : Same F5 (upd F5 c (.lst ys)) := sm_new (Same.refl F5) wo.f
      have g8 := g7.new (o := .tup [.ref c3, .ref c]) nT
      have s8 := ((Gr.refl (mu := mu0) g7.fh).new (o := .tup [.ref c3, .ref c]) nT).ff
      exact q _ _ T c (.ref c3) ys g8 upd_same (Is.up (Is.up (Is.up (wd_is hc3) gb) gs) s8) (s8 _ _ upd_same) ((IsAll.up al gs).up s8)
def sp_led_left (P : Program) (w : World) : Sp := fun vs H Q _ => ∃ (F : Hp) (x : V) (md : Md) (p r : Int) (d : Addr) (B : List Wd), vs = [x, .int p, .int r, .ref d] ∧ Same F H ∧ Is F x md ∧ KD P w F H d B ∧ 1 ≤ md.a.l.length ∧ md.d.l.length ≤ 1000 ∧ B.length ≤ 100000 ∧
  ∀ (F' H' : Hp) (T c : Addr) (wv : V) (ys : List V), Gr mu0 F H F' H' → F' T = some (.tup [wv, .ref c]) → Is F' wv (nw2 md p) → F' c = some (.lst ys) → IsAll F' ys (more2 md p r B) → Q (.ref T) H'
theorem ok_led_left (t : Tx K mg) : FnOk P w K mg base CX0 1 t.a_led_left t.fd_led_left ["middle", "put", "row", "lefts"] (sp_led_left P w) := by
  refine t.F_led_left.ok sc_led_left (fun vs H Q E h => ?_) (fun cdv A outer s H vs Q E hr h => ?_)
  · obtain ⟨F, x, md, p, r, d, B, rfl, _⟩ := h
    rfl
  · obtain ⟨F, x, md, p, r, d, B, rfl, sF, hx, hd, l1, l2, lB, q⟩ := h
    refine ⟨_, (pss_cons (ps_asg (pv 0) (pg_tup rfl (pgs_cons (pg_name (i := 4) sc_led_left.nd rfl (by first | exact Or.inl rfl | exact Or.inr rfl)) (pgs_cons (pg_name (i := 5) sc_led_left.nd rfl (by first | exact Or.inl rfl | exact Or.inr rfl)) (pgs_cons (pg_name (i := 6) sc_led_left.nd rfl (by first | exact Or.inl rfl | exact Or.inr rfl)) (pgs_cons (pg_name (i := 7) sc_led_left.nd rfl (by first | exact Or.inl rfl | exact Or.inr rfl)) pgs_nil))))))
      (pss_cons (ps_set (i := 8) sc_led_left.nd rfl (by first | exact Or.inl rfl | exact Or.inr rfl) (pe_op op_catQ (pe_tup (pa_cons (pv 1) pa_nil)) (pe_slice sl_tupQ (pv 7) po_none (po_some (pe_un un_neg pe_int)))))
      (pss_cons (ps_set (i := 9) sc_led_left.nd rfl (by first | exact Or.inl rfl | exact Or.inr rfl) (pe_lst pa_nil))
      (pss_cons (ps_lock (ps_for PassesOwn.never rfl (pi_keysN (pv 3)) (pg_name (i := 10) sc_led_left.nd rfl (by first | exact Or.inl rfl | exact Or.inr rfl)) (pss_one (ps_if (pt_cmpR (op_eqD hr.units) (pe_slice sl_tupQ (pv 10) (po_some pe_int) po_none) (pe_slice sl_tupQ (pv 4) po_none (po_some (pe_un un_neg pe_int))) (nomark _)) (pss_one (ps_expr (pe_bm PySem.F.plainAttrs_list PySem.F.slot_list_append PySem.F.type_list_append mt_append (pv 9) (pa_cons (pe_tup (pa_cons (pv 10) (pa_cons (pv 2) (pa_cons (pe_ix ix_tup (pv 4) (pe_un un_neg pe_int) (fun _ _ => rfl)) (pa_cons (pv 8) pa_nil))))) pa_nil)))) pss_nil))))
      (pss_one (ps_ret (pe_tup (pa_cons (pv 8) (pa_cons (pv 9) pa_nil))))))))), ?_⟩
    have g0 : Gr mu0 F H F H := Gr.refl sF
    obtain ⟨p0, x0, x1, x2, x3, rfl, hp, i0, i1, i2, i3⟩ := id hx
    obtain ⟨a1, rfl, ha⟩ := wd_ref i0
    obtain ⟨a2, rfl, hb⟩ := wd_ref i3
    refine ⟨_, rfl, p0, _, rfl, SqT.of (sF _ _ hp), rfl, _, _, rfl, _, _, rfl, _, _, rfl, _, _, rfl, rfl, ?_⟩
    refine ⟨_, rfl, one_le, fun p1 np1 => ?_⟩
    have g1 := g0.new (o := .tup ([p].map V.int)) np1
    have hb1 := g1.ff _ _ hb
    have hp1 : (upd F p1 (.tup ([p].map V.int))) p1 = some (.tup ([p].map V.int)) := upd_same
    generalize upd F p1 (.tup ([p].map V.int)) = F1 at g1 hb1 hp1
    refine ⟨_, rfl, _, rfl, _, rfl, sl_wdl g1 hb1 fun F2 H2 c1 g2 k2 hc1 => ?_⟩
    refine cat_wd (l1 := [p]) (l2 := md.d.l.dropLast) g2 (k2.ff _ _ hp1) hc1 (by rw [List.length_dropLast, List.length_singleton]; omega) fun F3 H3 c3 g3 k3 hc3 => ?_
    refine ⟨nil_le, fun c nc => ?_⟩
    have g4 := g3.own (o := .lst []) nc
    have w4 : Ow H F3 (upd H3 c (.lst [])) c (.lst []) := Ow.mk1 g3 nc
    have f4 := (hd.gr g4 (fun z => z)).1
    obtain ⟨_, L, hL0, kL, eL⟩ := id hd
    have kL := kL.up g4.ff
    have hL := g4.fr _ _ hL0 (fun z => z)
    generalize upd H3 c (.lst []) = H4 at g4 w4 hL ⊢
    have lL : (neL L).length = B.length := by rw [neL_len, ← eL, List.length_map]
    refine ⟨d, _, hL, trivial, fun od => ?_⟩
    have dc : c ≠ d := by
      rintro rfl
      rw [w4.h] at hL; cases hL
    have g5 := lk_gr (z := .frz od (DictD P w d L)) g4 hL0 f4
    have hz : (upd H4 d (.frz od (DictD P w d L))) d = some (.frz od (DictD P w d L)) := upd_same
    have w5 : Ow (upd H d (.frz od (DictD P w d L))) F3 (upd H4 d (.frz od (DictD P w d L))) c (.lst []) := ⟨by rw [upd_ne dc]; exact w4.n, w4.f, by rw [upd_ne dc]; exact w4.h⟩
    have hz0 : (upd H d (.frz od (DictD P w d L))) d = some (.frz od (DictD P w d L)) := upd_same
    generalize eH : upd H4 d (.frz od (DictD P w d L)) = Hl at g5 hz w5 ⊢
    generalize eH0 : upd H d (.frz od (DictD P w d L)) = Hz at g5 w5 hz0
    refine ⟨_, rfl, d, od, _, rfl, hz, for_it walk_keysN (fun i σ G => ∃ (F5 : Hp) (ys : List V) (v10 : Option V), σ = [some (.ref p0), some (.int p), some (.int r), some (.ref d), some (.ref a1), some x1, some x2, some (.ref a2), some (.ref c3), some (.ref c), v10] ∧ Gr mu0 F Hz F5 G ∧ Same F3 F5 ∧ Ow Hz F5 G c (.lst ys) ∧ IsAll F5 ys (more2 md p r (B.take i)))
      ⟨F3, [], none, rfl, g5, Same.refl F3, w5, All2.nil⟩ (fun i σ G _ ⟨F5, ys, v10, _, g, _⟩ => g.fr _ _ hz0 (fun z => z)) ?_ ?_⟩
    · rintro i y σ G G' hi ⟨F5, ys, v10, rfl, g, gb, wo, al⟩ ⟨rfl, t0, ht0, rfl⟩
      rw [lL] at hi
      obtain ⟨⟨b, wd, vv⟩, hx, eb⟩ := neL_at ht0
      have hB : B[i]? = some wd := by rw [← eL, List.getElem?_map, hx]; rfl
      have iw : Is F3 (.ref b) wd := kL _ (List.mem_of_getElem? hx)
      rw [eb]
      have iw := Is.up iw gb
      obtain ⟨b', e, hw⟩ := wd_ref iw
      cases e
      have st : B.take (i + 1) = B.take i ++ [wd] := by rw [List.take_add_one, hB]; rfl
      refine ⟨_, rfl, _, rfl, sl_wd1 g hw fun F6 H6 c6 g6 k6 hc6 => ?_⟩
      have ha6 := k6.ff _ _ (g.ff _ _ ha)
      refine ⟨_, rfl, _, rfl, _, rfl, sl_wdl g6 ha6 fun F7 H7 c7 g7 k7 hc7 => ?_⟩
      refine eq_dat (a := (⟨wd.l.drop 1⟩ : Wd)) (b := ⟨md.a.l.dropLast⟩) (Is.up (wd_is (k7.ff _ _ hc6)) g7.fh) (Is.up (wd_is hc7) g7.fh) ⟨_, rfl, ?_⟩
      have gb7 := (gb.trans k6.ff).trans k7.ff
      have w7 := (wo.call k6 (fun z => z)).call k7 (fun z => z)
      have al7 := (IsAll.up al k6.ff).up k7.ff
      refine ite2 (fun c2 => ?_) (fun c2 => ?_)
      · have c2 : wd.l.drop 1 = md.a.l.dropLast := congrArg Tup.l (of_decide_eq_true c2)
        have hp4 := SqT.of (K := K) (g7.fh _ _ (g7.ff _ _ ha))
        refine ⟨_, rfl, .inl ⟨rfl, _, SqL.of w7.h⟩, _, rfl, _, rfl, _, rfl, _, rfl, a1, _, _, _, rfl, rfl, hp4, last_at l1, _, rfl, len4, fun T nT => ?_⟩
        have g8 := g7.new (o := .tup [.ref b, .int r, .int (md.a.l.getLastD 0), .ref c3]) nT
        have k8 := (Gr.refl (mu := mu0) g7.fh).new (o := .tup [.ref b, .int r, .int (md.a.l.getLastD 0), .ref c3]) nT
        have w8 := w7.new (u := .tup [.ref b, .int r, .int (md.a.l.getLastD 0), .ref c3]) nT
        have lm := more2_len md p r (B.take i)
        rw [List.length_take] at lm
        refine ⟨c, _, _, rfl, rfl, w8.h, lt_size (by rw [al.1]; omega), _, ys ++ [.ref T], _, rfl, g8.set w8.f (.inl w8.n), gb7.trans k8.ff, w8.set, ?_⟩
        rw [st, more2_add, if_pos c2]
        exact (IsAll.up al7 k8.ff).app (All2.one ⟨T, _, _, _, _, rfl, upd_same, Is.up (Is.up iw (k6.ff.trans k7.ff)) k8.ff, rfl, rfl, Is.up (wd_is hc3) (gb7.trans k8.ff)⟩)
      · have c2 : ¬ wd.l.drop 1 = md.a.l.dropLast := fun z => of_decide_eq_false (Bool.eq_false_iff.mpr c2) (by rw [z])
        refine ⟨F7, ys, _, rfl, g7, gb7, w7, ?_⟩
        rw [st, more2_add, if_neg c2, List.append_nil]
        exact al7
    · rintro σ G ⟨F5, ys, v10, rfl, g, gb, wo, al⟩
      rw [lL, List.take_length] at al
      have e4 := lk_out (h := hL0) (f := hd.1) (eH0 ▸ g)
      obtain ⟨h1, f5, g6⟩ := e4
      refine ⟨h1, ?_⟩
      have wc : (upd G d (DictD P w d L)) c = some (.lst ys) := by rw [upd_ne dc]; exact wo.h
      have hn : H c = none := w4.n
      generalize upd G d (DictD P w d L) = G6 at g6 wc ⊢
      refine ⟨_, rfl, _, rfl, two_le, fun T nT => ?_⟩
      have g7 := g6.frz wc hn wo.f
      have gs : Same F5 (upd F5 c (.lst ys)) := sm_new (Same.refl F5) wo.f
      have g8 := g7.new (o := .tup [.ref c3, .ref c]) nT
      have s8 := ((Gr.refl (mu := mu0) g7.fh).new (o := .tup [.ref c3, .ref c]) nT).ff
      exact q _ _ T c (.ref c3) ys g8 upd_same (Is.up (Is.up (Is.up (wd_is hc3) gb) gs) s8) (s8 _ _ upd_same) ((IsAll.up al gs).up s8)
/-! ### shut sets, plainly: one look over all middles -/
structure SS where
  A : List Wd
  B : List Wd
  C : List Md
def SS.n (s : SS) : Nat := s.A.length + s.B.length + s.C.length
def gstep (M : Mach) (s : SS) (m : Md) : Option SS := match entM M m with
  | .emp => none
  | .go p w t => if w = 1 then some ⟨adK s.A (nw1 m p), s.B, adKs s.C (more1 m p t s.B)⟩ else some ⟨s.A, adK s.B (nw2 m p), adKs s.C (more2 m p t s.A)⟩
def gall (M : Mach) (s : SS) : List Md → Option SS
  | [] => some s
  | m :: ms => (gstep M s m).bind fun s' => gall M s' ms
theorem gall_app (M : Mach) : ∀ (xs ys : List Md) (s : SS), gall M s (xs ++ ys) = (gall M s xs).bind fun s' => gall M s' ys
  | [], ys, s => rfl
  | x :: xs, ys, s => by
    show (gstep M s x).bind _ = ((gstep M s x).bind _).bind _
    cases gstep M s x with
    | none => rfl
    | some s' => exact gall_app M xs ys s'
structure WOk (S k : Nat) (a : Wd) : Prop where
  len : a.l.length = k
  sg : ∀ z ∈ a.l, 0 ≤ z ∧ z < S
structure CMd (R S k : Nat) (m : Md) : Prop where
  a : WOk S k m.a
  d : WOk S k m.d
  b : 0 ≤ m.b ∧ m.b < R
  c : 0 ≤ m.c ∧ m.c < S
structure SSOk (R S k : Nat) (s : SS) : Prop where
  na : s.A.Nodup
  nb : s.B.Nodup
  nc : s.C.Nodup
  a : ∀ x ∈ s.A, WOk S k x
  b : ∀ x ∈ s.B, WOk S k x
  c : ∀ x ∈ s.C, CMd R S k x
section
variable {M : Mach} {R S k : Nat} {s s' : SS} {m : Md} {p w t : Int}
theorem nw1_ok (h : CMd R S k m) (hk : 1 ≤ k) (hp : 0 ≤ p ∧ p < S) : WOk S k (nw1 m p) := by
  refine ⟨?_, fun z hz => ?_⟩
  · show (m.a.l.drop 1 ++ [p]).length = k
    rw [List.length_append, List.length_drop, h.a.len, List.length_singleton]; omega
  · rcases List.mem_append.mp hz with hz | hz
    · exact h.a.sg z (List.mem_of_mem_drop hz)
    · rw [List.mem_singleton.mp hz]; exact hp
theorem nw2_ok (h : CMd R S k m) (hk : 1 ≤ k) (hp : 0 ≤ p ∧ p < S) : WOk S k (nw2 m p) := by
  refine ⟨?_, fun z hz => ?_⟩
  · show (p :: m.d.l.dropLast).length = k
    rw [List.length_cons, List.length_dropLast, h.d.len]; omega
  · rcases List.mem_cons.mp hz with e | hz
    · rw [e]; exact hp
    · exact h.d.sg z ((List.dropLast_sublist _).subset hz)
theorem mv1_ok (h : CMd R S k m) (hk : 1 ≤ k) (hp : 0 ≤ p ∧ p < S) (ht : 0 ≤ t ∧ t < R) {y : Wd} (hy : WOk S k y) : CMd R S k (mv1 m p t y) := by
  refine ⟨nw1_ok h hk hp, hy, ht, ?_⟩
  have l := h.d.len
  have g := h.d.sg
  show 0 ≤ m.d.l.headD 0 ∧ m.d.l.headD 0 < S
  cases e : m.d.l with
  | nil => rw [e] at l; simp at l; omega
  | cons x xs => exact g x (by rw [e]; exact List.mem_cons_self ..)
theorem mv2_ok (h : CMd R S k m) (hk : 1 ≤ k) (hp : 0 ≤ p ∧ p < S) (ht : 0 ≤ t ∧ t < R) {y : Wd} (hy : WOk S k y) : CMd R S k (mv2 m p t y) := by
  refine ⟨hy, nw2_ok h hk hp, ht, ?_⟩
  have l := h.a.len
  have g := h.a.sg
  show 0 ≤ m.a.l.getLastD 0 ∧ m.a.l.getLastD 0 < S
  have ne : m.a.l ≠ [] := by intro e; rw [e] at l; simp at l; omega
  rw [List.getLastD_eq_getLast?, List.getLast?_eq_some_getLast ne]
  exact g _ (List.getLast_mem ne)
theorem gstep_ok (hM : MOk M R S) (hk : 1 ≤ k) (hs : SSOk R S k s) (hm : CMd R S k m) (e : gstep M s m = some s') : SSOk R S k s' := by
  obtain ⟨_, _, _, eo⟩ := ent_of hM hm.b.1 hm.b.2 hm.c.1 hm.c.2
  unfold gstep at e
  cases ee : entM M m with
  | emp => rw [ee] at e; cases e
  | go p w t =>
    rw [ee] at e
    dsimp only at e
    obtain ⟨o1, o2, o3⟩ := eo.ok _ _ _ ee
    by_cases c : w = 1
    · rw [if_pos c] at e
      cases e
      refine ⟨adK_nd hs.na, hs.nb, adKs_nd _ hs.nc, fun x hx => ?_, hs.b, fun x hx => ?_⟩
      · rcases mem_adK.mp hx with hx | hx
        · exact hs.a x hx
        · rw [hx]; exact nw1_ok hm hk o1
      · rcases mem_adKs.mp hx with hx | hx
        · exact hs.c x hx
        · obtain ⟨y, hy, rfl⟩ := List.mem_map.mp hx
          exact mv1_ok hm hk o1 o3 (hs.b y (List.mem_filter.mp hy).1)
    · rw [if_neg c] at e
      cases e
      refine ⟨hs.na, adK_nd hs.nb, adKs_nd _ hs.nc, hs.a, fun x hx => ?_, fun x hx => ?_⟩
      · rcases mem_adK.mp hx with hx | hx
        · exact hs.b x hx
        · rw [hx]; exact nw2_ok hm hk o1
      · rcases mem_adKs.mp hx with hx | hx
        · exact hs.c x hx
        · obtain ⟨y, hy, rfl⟩ := List.mem_map.mp hx
          exact mv2_ok hm hk o1 o3 (hs.a y (List.mem_filter.mp hy).1)
end
/-! how many there are -/
def sgs (S : Nat) : List Int := (List.range S).map Int.ofNat
def allW (S : Nat) : Nat → List (List Int)
  | 0 => [[]]
  | k + 1 => (sgs S).flatMap fun z => (allW S k).map (z :: ·)
theorem mem_sgs {S : Nat} {z : Int} (h : 0 ≤ z ∧ z < S) : z ∈ sgs S := List.mem_map.mpr ⟨z.toNat, List.mem_range.mpr (by omega), by show ((z.toNat : Nat) : Int) = z; omega⟩
theorem mem_allW {S : Nat} : ∀ {k : Nat} {l : List Int}, l.length = k → (∀ z ∈ l, 0 ≤ z ∧ z < S) → l ∈ allW S k
  | 0, [], _, _ => List.mem_singleton.mpr rfl
  | k + 1, z :: l, h, g => List.mem_flatMap.mpr ⟨z, mem_sgs (g z (List.mem_cons_self ..)), List.mem_map.mpr ⟨l, mem_allW (by simpa using h) (fun y m => g y (List.mem_cons_of_mem _ m)), rfl⟩⟩
theorem len_fm {α β : Type} (f : α → List β) (n : Nat) (h : ∀ x, (f x).length = n) : ∀ l : List α, (l.flatMap f).length = l.length * n
  | [] => by simp
  | x :: l => by rw [List.flatMap_cons, List.length_append, h, len_fm f n h l, List.length_cons, Nat.succ_mul, Nat.add_comm]
theorem len_allW (S : Nat) : ∀ k, (allW S k).length = S ^ k
  | 0 => rfl
  | k + 1 => by
    show ((sgs S).flatMap fun z => (allW S k).map (z :: ·)).length = _
    rw [len_fm _ (S ^ k) (fun z => by rw [List.length_map, len_allW S k])]
    unfold sgs
    rw [List.length_map, List.length_range, Nat.pow_succ, Nat.mul_comm]
theorem few_words {S k : Nat} {xs : List Wd} (nd : xs.Nodup) (h : ∀ x ∈ xs, WOk S k x) : xs.length ≤ S ^ k := by
  rw [← len_allW S k, ← List.length_map (f := Tup.mk)]
  exact nd.length_le_of_subset fun x hx => List.mem_map.mpr ⟨x.l, mem_allW (h x hx).len (h x hx).sg, rfl⟩
def allM4 (R S k : Nat) : List Md := (allW S k).flatMap fun a => (sgs R).flatMap fun b => (sgs S).flatMap fun c => (allW S k).map fun d => ⟨⟨a⟩, b, c, ⟨d⟩⟩
theorem len_allM4 (R S k : Nat) : (allM4 R S k).length = S ^ k * (R * (S * S ^ k)) := by
  unfold allM4
  have ls : ∀ n, (sgs n).length = n := fun n => by unfold sgs; rw [List.length_map, List.length_range]
  rw [len_fm _ (R * (S * S ^ k)) (fun a => by rw [len_fm _ (S * S ^ k) (fun b => by rw [len_fm _ (S ^ k) (fun c => by rw [List.length_map, len_allW]), ls]), ls]), len_allW]
theorem few_mids {R S k : Nat} {xs : List Md} (nd : xs.Nodup) (h : ∀ x ∈ xs, CMd R S k x) : xs.length ≤ S ^ k * (R * (S * S ^ k)) := by
  rw [← len_allM4]
  refine nd.length_le_of_subset fun x hx => ?_
  have q := h x hx
  unfold allM4
  refine List.mem_flatMap.mpr ⟨x.a.l, mem_allW q.a.len q.a.sg, List.mem_flatMap.mpr ⟨x.b, mem_sgs q.b, List.mem_flatMap.mpr ⟨x.c, mem_sgs q.c, List.mem_map.mpr ⟨x.d.l, mem_allW q.d.len q.d.sg, rfl⟩⟩⟩⟩
theorem SSOk.few {R S k : Nat} {s : SS} (h : SSOk R S k s) (hR : R ≤ 4) (hS : S ≤ 4) (hk : S ^ k ≤ 16) : s.A.length ≤ 16 ∧ s.B.length ≤ 16 ∧ s.C.length ≤ 4096 := by
  refine ⟨Nat.le_trans (few_words h.na h.a) hk, Nat.le_trans (few_words h.nb h.b) hk, Nat.le_trans (few_mids h.nc h.c) ?_⟩
  calc S ^ k * (R * (S * S ^ k)) ≤ 16 * (4 * (4 * 16)) := Nat.mul_le_mul hk (Nat.mul_le_mul hR (Nat.mul_le_mul hS hk))
    _ = 4096 := rfl
theorem eqvi {a b : Int} : decide (V.int a = V.int b) = decide (a = b) := by
  congr 1
  exact propext ⟨fun h => V.int.inj h, fun h => by rw [h]⟩
/-! ### one look over all middles, by the program -/
def mu3 (d1 d2 d3 : Addr) : Addr → Prop := fun c => c = d1 ∨ c = d2 ∨ c = d3
theorem or_grow {a b c : Nat} (h1 : a ≤ b) (h2 : b ≤ c) : (decide (b < c) || decide (a < b)) = decide (a < c) := by
  by_cases x : b < c
  · rw [decide_eq_true x, decide_eq_true (show a < c by omega)]; rfl
  · rw [decide_eq_false x, Bool.false_or]
    congr 1
    exact propext ⟨fun z => by omega, fun z => by omega⟩
theorem orV_put {ta tb : TE} {j : Nat} {D : Ends} {σ : L2.St} {H : Hp} (c b : Bool) (P : Hp → Prop) (ea : ∀ Q' : VK, (∀ G, P G → Q' (.bl c) G) → ta σ H Q') (eb : ∀ (G : Hp) (Q' : VK), Q' (.bl b) G → tb σ G Q') (h : ∀ G, P G → D.nx (σ.set j (some (.bl (c || b)))) G) : tAsg (tOrV ta tb) (gName j) D σ H :=
  ea _ fun G hG => ⟨c, rfl, by
    cases c
    · exact eb G _ (h G hG)
    · exact h G hG⟩
def sp_grown (P : Program) (w : World) : Sp := fun vs H Q _ => ∃ (F : Hp) (m : V) (M : Mach) (R S k : Nat) (d1 d2 d3 : Addr) (s : SS), vs = [m, .ref d1, .ref d2, .ref d3] ∧ Same F H ∧ Is F m M ∧ MOk M R S ∧ 1 ≤ k ∧ S ^ k ≤ 16 ∧ k ≤ 16 ∧ KD P w F H d1 s.A ∧ KD P w F H d2 s.B ∧ KD P w F H d3 s.C ∧ d1 ≠ d2 ∧ d1 ≠ d3 ∧ d2 ≠ d3 ∧ SSOk R S k s ∧
  (gall M s s.C = none → ∀ F' H', Gr (mu3 d1 d2 d3) F H F' H' → Q .non H') ∧
  (∀ s', gall M s s.C = some s' → ∀ F' H', Gr (mu3 d1 d2 d3) F H F' H' → KD P w F' H' d1 s'.A → KD P w F' H' d2 s'.B → KD P w F' H' d3 s'.C → Q (.bl (decide (s.n < s'.n))) H')
theorem ok_grown (t : Tx K mg) : FnOk P w K mg base CX0 2 t.a_grown t.fd_grown ["machine", "lefts", "rights", "middles"] (sp_grown P w) := by
  refine t.F_grown.ok sc_grown (fun vs H Q E h => ?_) (fun cdv A outer s H vs Q E hr h => ?_)
  · obtain ⟨F, m, M, R, S, k, d1, d2, d3, s, rfl, _⟩ := h
    rfl
  · obtain ⟨F, m, M, R, S, k, d1, d2, d3, s0, rfl, sF, hm, hM, k1, kS, k16, q1, q2, q3, n12, n13, n23, ok0, qn, qs⟩ := h
    refine ⟨_, (pss_cons (ps_set (i := 4) sc_grown.nd rfl (by first | exact Or.inl rfl | exact Or.inr rfl) pe_bl)
      (pss_cons (ps_for PassesOwn.never rfl (pi_list (pe_callTy (T := "list") (call_listDN rfl) (by rfl) t.n_list (by decide +kernel) (pa_cons (pv 3) pa_nil))) (pg_name (i := 5) sc_grown.nd rfl (by first | exact Or.inl rfl | exact Or.inr rfl)) (pss_cons (ps_set (i := 6) sc_grown.nd rfl (by first | exact Or.inl rfl | exact Or.inr rfl) (pe_call (ok_entry_for t) (hr.mono (by decide)) (by rfl) t.m_entry_for t.F_entry_for.kp t.b_entry_for .nil pass0 (pa_cons (pv 0) (pa_cons (pv 5) pa_nil))))
      (pss_cons (ps_if (pt_cmpR (op_eqD hr.units) (pv 6) (pe_tup pa_nil) (nomark _)) (pss_one (ps_ret pe_non)) pss_nil)
      (pss_cons (ps_asg (pv 6) (pg_tup rfl (pgs_cons (pg_name (i := 7) sc_grown.nd rfl (by first | exact Or.inl rfl | exact Or.inr rfl)) (pgs_cons (pg_name (i := 8) sc_grown.nd rfl (by first | exact Or.inl rfl | exact Or.inr rfl)) (pgs_cons (pg_name (i := 9) sc_grown.nd rfl (by first | exact Or.inl rfl | exact Or.inr rfl)) pgs_nil)))))
      (pss_cons (ps_if (pt_cmpR op_eq (pv 8) pe_int (nomark _)) (pss_cons (ps_asg (pe_call (ok_led_right t) (hr.mono (by decide)) (by rfl) t.m_led_right t.F_led_right.kp t.b_led_right .nil pass0 (pa_cons (pv 5) (pa_cons (pv 7) (pa_cons (pv 9) (pa_cons (pv 2) pa_nil))))) (pg_tup rfl (pgs_cons (pg_name (i := 10) sc_grown.nd rfl (by first | exact Or.inl rfl | exact Or.inr rfl)) (pgs_cons (pg_name (i := 11) sc_grown.nd rfl (by first | exact Or.inl rfl | exact Or.inr rfl)) pgs_nil))))
      (pss_one (ps_set (i := 4) sc_grown.nd rfl (by first | exact Or.inl rfl | exact Or.inr rfl) (pe_or (pe_call (ok_put_new t) (hr.mono (by decide)) (by rfl) t.m_put_new t.F_put_new.kp t.b_put_new .nil pass0 (pa_cons (pv 1) (pa_cons (pe_lst (pa_cons (pv 10) pa_nil)) pa_nil))) (pe_one (pv 4)))))) (pss_cons (ps_asg (pe_call (ok_led_left t) (hr.mono (by decide)) (by rfl) t.m_led_left t.F_led_left.kp t.b_led_left .nil pass0 (pa_cons (pv 5) (pa_cons (pv 7) (pa_cons (pv 9) (pa_cons (pv 1) pa_nil))))) (pg_tup rfl (pgs_cons (pg_name (i := 10) sc_grown.nd rfl (by first | exact Or.inl rfl | exact Or.inr rfl)) (pgs_cons (pg_name (i := 11) sc_grown.nd rfl (by first | exact Or.inl rfl | exact Or.inr rfl)) pgs_nil))))
      (pss_one (ps_set (i := 4) sc_grown.nd rfl (by first | exact Or.inl rfl | exact Or.inr rfl) (pe_or (pe_call (ok_put_new t) (hr.mono (by decide)) (by rfl) t.m_put_new t.F_put_new.kp t.b_put_new .nil pass0 (pa_cons (pv 2) (pa_cons (pe_lst (pa_cons (pv 10) pa_nil)) pa_nil))) (pe_one (pv 4)))))))
      (pss_one (ps_set (i := 4) sc_grown.nd rfl (by first | exact Or.inl rfl | exact Or.inr rfl) (pe_or (pe_call (ok_put_new t) (hr.mono (by decide)) (by rfl) t.m_put_new t.F_put_new.kp t.b_put_new .nil pass0 (pa_cons (pv 3) (pa_cons (pv 11) pa_nil))) (pe_one (pv 4))))))))))
      (pss_one (ps_ret (pv 4))))), ?_⟩
    have g0 : Gr (mu3 d1 d2 d3) F H F H := Gr.refl sF
    obtain ⟨f3, L, hL, kL, eL⟩ := id q3
    refine ⟨_, rfl, rListDN.mk (P := P) (w := w) hL fun lc nc => ?_⟩
    have g1 := g0.new (o := .lst ((neL L).map fun t => .ref t.2.1)) nc
    have hlc : (upd F lc (.lst ((neL L).map fun t => .ref t.2.1))) lc = some (.lst ((neL L).map fun t => .ref t.2.1)) := upd_same
    have kg := (Gr.refl (mu := mu0) sF).new (o := .lst ((neL L).map fun t => .ref t.2.1)) nc
    have q1 := q1.gr kg (fun z => z)
    have q2 := q2.gr kg (fun z => z)
    have q3 := q3.gr kg (fun z => z)
    have hm := hm.up kg.ff
    have kL := kL.up kg.ff
    generalize upd F lc (.lst ((neL L).map fun t => .ref t.2.1)) = F1 at g1 hlc kg q1 q2 q3 hm kL
    generalize upd H lc (.lst ((neL L).map fun t => .ref t.2.1)) = H1 at g1 kg q1 q2 q3 ⊢
    refine ⟨lc, rfl, ⟨_, SqL.of (g1.fh _ _ hlc)⟩, for_list (K := K) (a := lc) (xs := (neL L).map fun t => .ref t.2.1) (fun i σ G => ∃ (F5 : Hp) (s : SS) (v5 v6 v7 v8 v9 v10 v11 : Option V), σ = [some m, some (.ref d1), some (.ref d2), some (.ref d3), some (.bl (decide (s0.n < s.n))), v5, v6, v7, v8, v9, v10, v11] ∧ Gr (mu3 d1 d2 d3) F H F5 G ∧ Same F1 F5 ∧ gall M s0 (s0.C.take i) = some s ∧ s0.n ≤ s.n ∧ SSOk R S k s ∧ KD P w F5 G d1 s.A ∧ KD P w F5 G d2 s.B ∧ KD P w F5 G d3 s.C)
      ⟨F1, s0, none, none, none, none, none, none, none, ?_, g1, Same.refl F1, rfl, Nat.le_refl _, ok0, q1, q2, q3⟩ (fun i σ G _ ⟨F5, s, v5, v6, v7, v8, v9, v10, v11, _, g, gb, _⟩ => SqL.of (g.fh _ _ (gb _ _ hlc))) ?_ ?_⟩
    · rw [decide_eq_false (Nat.lt_irrefl _)]; rfl
    · rintro i y σ G hi ⟨F5, s, v5, v6, v7, v8, v9, v10, v11, rfl, g, gb, es, le, ok, p1, p2, p3⟩
      rw [List.getElem?_map] at hi
      obtain ⟨t0, ht0, rfl⟩ := Option.map_eq_some_iff.mp hi
      obtain ⟨⟨b, md, vv⟩, hx, eb⟩ := neL_at ht0
      rw [eb]
      have hC : s0.C[i]? = some md := by rw [← eL, List.getElem?_map, hx]; rfl
      have imd : Is F5 (.ref b) md := Is.up (kL _ (List.mem_of_getElem? hx)) gb
      have cmd : CMd R S k md := ok0.c md (List.mem_of_getElem? hC)
      have st : s0.C.take (i + 1) = s0.C.take i ++ [md] := by rw [List.take_add_one, hC]; rfl
      have ga : gall M s0 (s0.C.take (i + 1)) = gstep M s md := by
        rw [st, gall_app, es]
        show (gstep M s md).bind (fun s' => some s') = _
        cases gstep M s md <;> rfl
      refine ⟨_, rfl, _, rfl, F5, m, .ref b, M, R, S, md, rfl, g.fh, hm.up gb, hM, imd, cmd.b.1, cmd.b.2, cmd.c.1, cmd.c.2, fun ve ie eo => ?_⟩
      refine ⟨_, rfl, nil_le, fun e0 ne0 => ?_⟩
      have g2 := g.own (o := .tup []) ne0
      have kk := (Gr.refl (mu := mu0) g.fh).own (o := .tup []) ne0
      have p1 := p1.gr kk (fun z => z)
      have p2 := p2.gr kk (fun z => z)
      have p3 := p3.gr kk (fun z => z)
      refine eq_dat (a := entM M md) (b := Ent.emp) (ie.up g2.fh) ⟨e0, rfl, upd_same⟩ ⟨_, rfl, ?_⟩
      generalize upd G e0 (.tup []) = G1 at g2 p1 p2 p3 ⊢
      cases ee : entM M md with
      | emp =>
        refine ifT (by rw [decide_eq_true rfl]) ?_
        refine qn ?_ F5 G1 g2
        have : s0.C = s0.C.take (i + 1) ++ s0.C.drop (i + 1) := (List.take_append_drop ..).symm
        rw [this, gall_app, ga]
        unfold gstep
        rw [ee]; rfl
      | go pu wa to =>
        refine ifF (by rw [decide_eq_false (fun z => nomatch z)]) ?_
        rw [ee] at ie
        obtain ⟨o1, o2, o3⟩ := eo.ok _ _ _ ee
        obtain ⟨ae, rfl, hae⟩ := ie
        refine ⟨_, rfl, ae, _, rfl, SqT.of (g2.fh _ _ hae), rfl, _, _, rfl, _, _, rfl, _, _, rfl, rfl, ?_⟩
        have fw := ok.few hM.r4 hM.s4 kS
        have lA := fw.1
        have lB := fw.2.1
        have lC := fw.2.2
        refine ⟨_, rfl, rfl, _, rfl, ?_⟩
        rw [eqvi]
        by_cases c : wa = 1
        · refine ifT (decide_eq_true c) ?_
          have eg : gstep M s md = some (⟨adK s.A (nw1 md pu), s.B, adKs s.C (more1 md pu to s.B)⟩ : SS) := by
            unfold gstep
            rw [ee]
            dsimp only
            rw [if_pos c]
          have lm := more1_len md pu to s.B
          refine ⟨_, rfl, _, rfl, _, rfl, _, rfl, F5, .ref b, md, pu, to, d2, s.B, rfl, g2.fh, imd, p2, by rw [cmd.d.len]; exact k1, by rw [cmd.a.len]; omega, by omega, fun F6 G2 T cc wv ys g3 hT iw hcc al => ?_⟩
          refine ⟨_, _, rfl, SqT.of (g3.fh _ _ hT), rfl, _, _, rfl, _, _, rfl, rfl, ?_⟩
          have g4 := g2.trans (g3.weak (fun c z => z.elim))
          have p1 := p1.gr g3 (fun z => z)
          have p2 := p2.gr g3 (fun z => z)
          have p3 := p3.gr g3 (fun z => z)
          have gb6 := gb.trans g3.ff
          dsimp only
          refine orV_put (decide (s.A.length < (adKs s.A [nw1 md pu]).length)) (decide (s0.n < s.n)) (fun G8 => ∃ F7, Gr (mu3 d1 d2 d3) F H F7 G8 ∧ Same F6 F7 ∧ KD P w F7 G8 d1 (adKs s.A [nw1 md pu]) ∧ KD P w F7 G8 d2 s.B ∧ KD P w F7 G8 d3 s.C) (fun Q' hQ => ?_) (fun G Q' hQ => ⟨_, rfl, hQ⟩) fun G8 hG8 => ?_
          · refine ⟨_, rfl, _, rfl, one_le, fun l nl => ?_⟩
            have g5 := g4.new (o := .lst [wv]) nl
            have kn := (Gr.refl (mu := mu0) g4.fh).new (o := .lst [wv]) nl
            have hl : (upd F6 l (.lst [wv])) l = some (.lst [wv]) := upd_same
            have p1 := p1.gr kn (fun z => z)
            have p2 := p2.gr kn (fun z => z)
            have p3 := p3.gr kn (fun z => z)
            have iw := Is.up iw kn.ff
            have s67 := kn.ff
            generalize upd F6 l (.lst [wv]) = F7 at g5 kn hl p1 p2 p3 iw s67
            generalize upd G2 l (.lst [wv]) = G3 at g5 kn p1 p2 p3 ⊢
            refine ⟨Wd, inferInstance, inferInstance, inferInstance, inferInstance, F7, d1, l, s.A, [nw1 md pu], [wv], rfl, g5.fh, p1, hl, All2.one iw, by rw [List.length_singleton]; omega, by decide, fun G8 g8 kd8 => hQ G8 ⟨F7, g5.trans (g8.weak (fun c e => .inl e)), s67, kd8, p2.gr g8 (fun e => n12 e.symm), p3.gr g8 (fun e => n13 e.symm)⟩⟩
          obtain ⟨F7, g6, s67, kd8, p2, p3⟩ := hG8
          have gb7 := gb6.trans s67
          have hcc := s67 _ _ hcc
          have al := IsAll.up al s67
          have e1 : (decide (s.A.length < (adKs s.A [nw1 md pu]).length) || decide (s0.n < s.n)) = decide (s0.n < (⟨adK s.A (nw1 md pu), s.B, s.C⟩ : SS).n) := by
            rw [← or_grow le (show s.n ≤ (⟨adK s.A (nw1 md pu), s.B, s.C⟩ : SS).n from by have := adK_len s.A (nw1 md pu); unfold SS.n; dsimp only; omega)]
            congr 2
            refine propext ⟨fun z => ?_, fun z => ?_⟩
            · have z : s.A.length < (adK s.A (nw1 md pu)).length := z
              unfold SS.n; dsimp only; omega
            · show s.A.length < (adK s.A (nw1 md pu)).length
              unfold SS.n at z; dsimp only at z; omega
          rw [e1]
          have le1 : s0.n ≤ (⟨adK s.A (nw1 md pu), s.B, s.C⟩ : SS).n := Nat.le_trans le (by have := adK_len s.A (nw1 md pu); unfold SS.n; dsimp only; omega)
          dsimp only
          refine orV_put (decide (s.C.length < (adKs s.C (more1 md pu to s.B)).length)) (decide (s0.n < (⟨adK s.A (nw1 md pu), s.B, s.C⟩ : SS).n)) (fun G9 => Gr (muP d3) F7 G8 F7 G9 ∧ KD P w F7 G9 d3 (adKs s.C (more1 md pu to s.B))) (fun Q' hQ => ⟨_, rfl, _, rfl, Md, inferInstance, inferInstance, inferInstance, inferInstance, F7, d3, cc, s.C, more1 md pu to s.B, ys, rfl, g6.fh, p3, hcc, al, by omega, by decide, fun G9 g9 kd9 => hQ G9 ⟨g9, kd9⟩⟩) (fun G Q' hQ => ⟨_, rfl, hQ⟩) fun G9 hG9 => ?_
          obtain ⟨g9, kd9⟩ := hG9
          have g7 := g6.trans (g9.weak (fun c e => .inr (.inr e)))
          have lc := adKs_len (more1 md pu to s.B) s.C
          have e2 : (decide (s.C.length < (adKs s.C (more1 md pu to s.B)).length) || decide (s0.n < (⟨adK s.A (nw1 md pu), s.B, s.C⟩ : SS).n)) = decide (s0.n < (⟨adK s.A (nw1 md pu), s.B, adKs s.C (more1 md pu to s.B)⟩ : SS).n) := by
            rw [← or_grow le1 (show (⟨adK s.A (nw1 md pu), s.B, s.C⟩ : SS).n ≤ (⟨adK s.A (nw1 md pu), s.B, adKs s.C (more1 md pu to s.B)⟩ : SS).n from by unfold SS.n; dsimp only; omega)]
            congr 2
            refine propext ⟨fun z => ?_, fun z => ?_⟩
            · unfold SS.n; dsimp only; omega
            · unfold SS.n at z; dsimp only at z; omega
          rw [e2]
          exact ⟨F7, ⟨adK s.A (nw1 md pu), s.B, adKs s.C (more1 md pu to s.B)⟩, _, _, _, _, _, _, _, rfl, g7, gb7, by rw [ga, eg], Nat.le_trans le1 (by unfold SS.n; dsimp only; omega), gstep_ok hM k1 ok cmd eg, (kd8.gr g9 (fun e => n13 e)), (p2.gr g9 (fun e => n23 e)), kd9⟩
        · refine ifF (decide_eq_false c) ?_
          have eg : gstep M s md = some (⟨s.A, adK s.B (nw2 md pu), adKs s.C (more2 md pu to s.A)⟩ : SS) := by
            unfold gstep
            rw [ee]
            dsimp only
            rw [if_neg c]
          have lm := more2_len md pu to s.A
          refine ⟨_, rfl, _, rfl, _, rfl, _, rfl, F5, .ref b, md, pu, to, d1, s.A, rfl, g2.fh, imd, p1, by rw [cmd.a.len]; exact k1, by rw [cmd.d.len]; omega, by omega, fun F6 G2 T cc wv ys g3 hT iw hcc al => ?_⟩
          refine ⟨_, _, rfl, SqT.of (g3.fh _ _ hT), rfl, _, _, rfl, _, _, rfl, rfl, ?_⟩
          have g4 := g2.trans (g3.weak (fun c z => z.elim))
          have p1 := p1.gr g3 (fun z => z)
          have p2 := p2.gr g3 (fun z => z)
          have p3 := p3.gr g3 (fun z => z)
          have gb6 := gb.trans g3.ff
          dsimp only
          refine orV_put (decide (s.B.length < (adKs s.B [nw2 md pu]).length)) (decide (s0.n < s.n)) (fun G8 => ∃ F7, Gr (mu3 d1 d2 d3) F H F7 G8 ∧ Same F6 F7 ∧ KD P w F7 G8 d2 (adKs s.B [nw2 md pu]) ∧ KD P w F7 G8 d1 s.A ∧ KD P w F7 G8 d3 s.C) (fun Q' hQ => ?_) (fun G Q' hQ => ⟨_, rfl, hQ⟩) fun G8 hG8 => ?_
          · refine ⟨_, rfl, _, rfl, one_le, fun l nl => ?_⟩
            have g5 := g4.new (o := .lst [wv]) nl
            have kn := (Gr.refl (mu := mu0) g4.fh).new (o := .lst [wv]) nl
            have hl : (upd F6 l (.lst [wv])) l = some (.lst [wv]) := upd_same
            have p1 := p1.gr kn (fun z => z)
            have p2 := p2.gr kn (fun z => z)
            have p3 := p3.gr kn (fun z => z)
            have iw := Is.up iw kn.ff
            have s67 := kn.ff
            generalize upd F6 l (.lst [wv]) = F7 at g5 kn hl p1 p2 p3 iw s67
            generalize upd G2 l (.lst [wv]) = G3 at g5 kn p1 p2 p3 ⊢
            refine ⟨Wd, inferInstance, inferInstance, inferInstance, inferInstance, F7, d2, l, s.B, [nw2 md pu], [wv], rfl, g5.fh, p2, hl, All2.one iw, by rw [List.length_singleton]; omega, by decide, fun G8 g8 kd8 => hQ G8 ⟨F7, g5.trans (g8.weak (fun c e => .inr (.inl e))), s67, kd8, p1.gr g8 (fun e => n12 e), p3.gr g8 (fun e => n23 e.symm)⟩⟩
          obtain ⟨F7, g6, s67, kd8, p1, p3⟩ := hG8
          have gb7 := gb6.trans s67
          have hcc := s67 _ _ hcc
          have al := IsAll.up al s67
          have e1 : (decide (s.B.length < (adKs s.B [nw2 md pu]).length) || decide (s0.n < s.n)) = decide (s0.n < (⟨s.A, adK s.B (nw2 md pu), s.C⟩ : SS).n) := by
            rw [← or_grow le (show s.n ≤ (⟨s.A, adK s.B (nw2 md pu), s.C⟩ : SS).n from by have := adK_len s.B (nw2 md pu); unfold SS.n; dsimp only; omega)]
            congr 2
            refine propext ⟨fun z => ?_, fun z => ?_⟩
            · have z : s.B.length < (adK s.B (nw2 md pu)).length := z
              unfold SS.n; dsimp only; omega
            · show s.B.length < (adK s.B (nw2 md pu)).length
              unfold SS.n at z; dsimp only at z; omega
          rw [e1]
          have le1 : s0.n ≤ (⟨s.A, adK s.B (nw2 md pu), s.C⟩ : SS).n := Nat.le_trans le (by have := adK_len s.B (nw2 md pu); unfold SS.n; dsimp only; omega)
          dsimp only
          refine orV_put (decide (s.C.length < (adKs s.C (more2 md pu to s.A)).length)) (decide (s0.n < (⟨s.A, adK s.B (nw2 md pu), s.C⟩ : SS).n)) (fun G9 => Gr (muP d3) F7 G8 F7 G9 ∧ KD P w F7 G9 d3 (adKs s.C (more2 md pu to s.A))) (fun Q' hQ => ⟨_, rfl, _, rfl, Md, inferInstance, inferInstance, inferInstance, inferInstance, F7, d3, cc, s.C, more2 md pu to s.A, ys, rfl, g6.fh, p3, hcc, al, by omega, by decide, fun G9 g9 kd9 => hQ G9 ⟨g9, kd9⟩⟩) (fun G Q' hQ => ⟨_, rfl, hQ⟩) fun G9 hG9 => ?_
          obtain ⟨g9, kd9⟩ := hG9
          have g7 := g6.trans (g9.weak (fun c e => .inr (.inr e)))
          have lc := adKs_len (more2 md pu to s.A) s.C
          have e2 : (decide (s.C.length < (adKs s.C (more2 md pu to s.A)).length) || decide (s0.n < (⟨s.A, adK s.B (nw2 md pu), s.C⟩ : SS).n)) = decide (s0.n < (⟨s.A, adK s.B (nw2 md pu), adKs s.C (more2 md pu to s.A)⟩ : SS).n) := by
            rw [← or_grow le1 (show (⟨s.A, adK s.B (nw2 md pu), s.C⟩ : SS).n ≤ (⟨s.A, adK s.B (nw2 md pu), adKs s.C (more2 md pu to s.A)⟩ : SS).n from by unfold SS.n; dsimp only; omega)]
            congr 2
            refine propext ⟨fun z => ?_, fun z => ?_⟩
            · unfold SS.n; dsimp only; omega
            · unfold SS.n at z; dsimp only at z; omega
          rw [e2]
          exact ⟨F7, ⟨s.A, adK s.B (nw2 md pu), adKs s.C (more2 md pu to s.A)⟩, _, _, _, _, _, _, _, rfl, g7, gb7, by rw [ga, eg], Nat.le_trans le1 (by unfold SS.n; dsimp only; omega), gstep_ok hM k1 ok cmd eg, (p1.gr g9 (fun e => n13 e)), (kd8.gr g9 (fun e => n23 e)), kd9⟩
    · rintro σ G ⟨F5, s, v5, v6, v7, v8, v9, v10, v11, rfl, g, gb, es, le, ok, p1, p2, p3⟩
      rw [List.length_map, neL_len, ← List.length_map (f := fun t : Addr × Md × V => t.2.1), eL, List.take_length] at es
      exact ⟨_, rfl, qs s es F5 G g p1 p2 p3⟩
/-! ### the least shut sets, by the program -/
def isW (S : Nat) (k : Int) : Bool := decide (1 ≤ k ∧ k ≤ 16 ∧ S ^ k.toNat ≤ 16)
def sp_is_width : Sp := fun vs H Q _ => ∃ (F : Hp) (m : V) (M : Mach) (R S : Nat) (k : Int), vs = [m, .int k] ∧ Same F H ∧ Is F m M ∧ MOk M R S ∧ Q (.bl (isW S k)) H
theorem pow_big {S : Nat} (h : S ≤ 4) : ∀ i, i ≤ 16 → S ^ i ≤ 4294967296 := fun i hi => by
  calc S ^ i ≤ 4 ^ i := Nat.pow_le_pow_left h i
    _ ≤ 4 ^ 16 := Nat.pow_le_pow_right (by decide) hi
    _ = 4294967296 := by decide
theorem ok_is_width (t : Tx K mg) : FnOk P w K mg base CX0 1 t.a_is_width t.fd_is_width ["machine", "width"] sp_is_width := by
  refine t.F_is_width.ok sc_is_width (fun vs H Q E h => ?_) (fun cdv A outer s H vs Q E hr h => ?_)
  · obtain ⟨F, m, M, R, S, k, rfl, _⟩ := h
    rfl
  · obtain ⟨F, m, M, R, S, k, rfl, sF, hm, hM, q⟩ := h
    refine ⟨_, (pss_cons (ps_if (PW.pt (pw_or (pt_cmpR op_lt (pv 1) pe_int (nomark _)) (pw_or1 (pt_cmpR op_gt (pv 1) (pe_glob (v := .int 16) (by rfl) t.m_MOST_WORDS ⟨_, rfl⟩) (nomark _))))) (pss_one (ps_ret pe_bl)) pss_nil)
      (pss_cons (ps_set (i := 2) sc_is_width.nd rfl (by first | exact Or.inl rfl | exact Or.inr rfl) pe_int)
      (pss_cons (ps_for PassesOwn.never rfl (pi_range1 (by rfl) t.n_range (pa_cons (pv 1) pa_nil)) (pg_name (i := 3) sc_is_width.nd rfl (by first | exact Or.inl rfl | exact Or.inr rfl)) (pss_one (ps_set (i := 2) sc_is_width.nd rfl (by first | exact Or.inl rfl | exact Or.inr rfl) (pe_op op_mul (pv 2) (pe_callB (id := "len") call_lenQ (by rfl) t.n_len (by decide +kernel) (pa_cons (pe_ix ix_list (pv 0) pe_int (fun _ _ => rfl)) pa_nil))))))
      (pss_one (ps_ret (pe_cmpR op_le (pv 2) (pe_glob (v := .int 16) (by rfl) t.m_MOST_WORDS ⟨_, rfl⟩) (nomark _))))))), ?_⟩
    obtain ⟨am, rws, rfl, ham, hrs⟩ := id hm
    have hr0 : 0 < M.length := by rw [hM.len]; exact hM.r1
    obtain ⟨v0, h0, ⟨a0, es, rfl, ha0, hes⟩⟩ := hrs.get (List.getElem?_eq_getElem hr0)
    have les : es.length = S := hes.1.trans (hM.row _ (List.getElem_mem hr0))
    unfold isW at q
    refine ⟨_, rfl, _, _, rfl, rfl, _, rfl, ?_⟩
    refine ite2 (fun c => ?_) (fun c => ?_)
    · have c : k < 1 := of_decide_eq_true c
      refine ifT rfl ?_
      rw [decide_eq_false (by omega)] at q
      exact q
    · have c : ¬ k < 1 := of_decide_eq_false (Bool.eq_false_iff.mpr c)
      refine ⟨_, rfl, _, _, rfl, rfl, _, rfl, ?_⟩
      refine ite2 (fun c2 => ?_) (fun c2 => ?_)
      · have c2 : 16 < k := of_decide_eq_true c2
        rw [decide_eq_false (by omega)] at q
        exact q
      · have c2 : ¬ 16 < k := of_decide_eq_false (Bool.eq_false_iff.mpr c2)
        refine ⟨_, rfl, k, rfl, by omega, by omega, for_range (lo := 0) (n := k.toNat) (fun i σ G => ∃ v3, σ = [some (.ref am), some (.int k), some (.int ((S ^ i : Nat) : Int)), v3] ∧ G = H) ⟨none, rfl, rfl⟩ ?_ ?_⟩
        · rintro i σ G hi ⟨v3, rfl, rfl⟩
          have b := pow_big hM.s4 i (by omega)
          refine ⟨_, rfl, _, rfl, am, rws, _, _, rfl, rfl, SqL.of (sF _ _ ham), atI_nat (j := 0) h0, a0, es, rfl, .inl (SqL.of (sF _ _ ha0)), _, _, rfl, rfl, .inl ⟨by omega, by omega⟩, ?_⟩
          refine ⟨some (.int (0 + (i : Int))), ?_, rfl⟩
          show [some (V.ref am), some (V.int k), some (V.int (((S ^ i : Nat) : Int) * (es.length : Int))), some (V.int (0 + (i : Int)))] = _
          rw [les, ← Int.natCast_mul, ← Nat.pow_succ]
        · rintro σ G ⟨v3, rfl, rfl⟩
          refine ⟨_, rfl, _, _, rfl, rfl, ?_⟩
          show Q (.bl (decide (((S ^ k.toNat : Nat) : Int) ≤ 16))) G
          rw [show (decide (((S ^ k.toNat : Nat) : Int) ≤ 16)) = decide (1 ≤ k ∧ k ≤ 16 ∧ S ^ k.toNat ≤ 16) from by
            congr 1
            exact propext ⟨fun z => ⟨by omega, by omega, by omega⟩, fun z => by omega⟩]
          exact q
/-- what comes of a start by looks over all middles -/
inductive Rn (M : Mach) (s0 : SS) : SS → Prop where
  | refl : Rn M s0 s0
  | step {s s' : SS} : Rn M s0 s → gall M s s.C = some s' → Rn M s0 s'
theorem gall_ok {M : Mach} {R S k : Nat} (hM : MOk M R S) (hk : 1 ≤ k) : ∀ {ms : List Md} {s s' : SS}, SSOk R S k s → (∀ m ∈ ms, CMd R S k m) → gall M s ms = some s' → SSOk R S k s'
  | [], s, s', h, _, e => by cases e; exact h
  | m :: ms, s, s', h, hm, e => by
    unfold gall at e
    cases e1 : gstep M s m with
    | none => rw [e1] at e; cases e
    | some s1 =>
      rw [e1] at e
      exact gall_ok hM hk (gstep_ok hM hk h (hm m (List.mem_cons_self ..)) e1) (fun x hx => hm x (List.mem_cons_of_mem _ hx)) e
theorem Rn.ok {M : Mach} {R S k : Nat} {s0 s : SS} (hM : MOk M R S) (hk : 1 ≤ k) (h0 : SSOk R S k s0) (r : Rn M s0 s) : SSOk R S k s := by
  induction r with
  | refl => exact h0
  | step _ e ih => exact gall_ok hM hk ih ih.c e
theorem adK_pre {α : Type} [DecidableEq α] (ks : List α) (x : α) : ks <+: adK ks x := by
  unfold adK
  split
  · exact List.prefix_refl _
  · exact List.prefix_append ..
theorem adKs_pre {α : Type} [DecidableEq α] : ∀ (xs ks : List α), ks <+: adKs ks xs
  | [], ks => List.prefix_refl _
  | x :: xs, ks => (adK_pre ks x).trans (adKs_pre xs _)
theorem gstep_pre {M : Mach} {s s' : SS} {m : Md} (e : gstep M s m = some s') : s.A <+: s'.A ∧ s.B <+: s'.B ∧ s.C <+: s'.C := by
  unfold gstep at e
  cases ee : entM M m with
  | emp => rw [ee] at e; cases e
  | go p w t =>
    rw [ee] at e
    dsimp only at e
    by_cases c : w = 1
    · rw [if_pos c] at e
      cases e
      exact ⟨adK_pre .., List.prefix_refl _, adKs_pre ..⟩
    · rw [if_neg c] at e
      cases e
      exact ⟨List.prefix_refl _, adK_pre .., adKs_pre ..⟩
theorem gall_pre {M : Mach} : ∀ {ms : List Md} {s s' : SS}, gall M s ms = some s' → s.A <+: s'.A ∧ s.B <+: s'.B ∧ s.C <+: s'.C
  | [], s, s', e => by cases e; exact ⟨List.prefix_refl _, List.prefix_refl _, List.prefix_refl _⟩
  | m :: ms, s, s', e => by
    unfold gall at e
    cases e1 : gstep M s m with
    | none => rw [e1] at e; cases e
    | some s1 =>
      rw [e1] at e
      obtain ⟨a1, b1, c1⟩ := gstep_pre e1
      obtain ⟨a2, b2, c2⟩ := gall_pre (show gall M s1 ms = some s' from e)
      exact ⟨a1.trans a2, b1.trans b2, c1.trans c2⟩
theorem gall_len {M : Mach} {ms : List Md} {s s' : SS} (e : gall M s ms = some s') : s.n ≤ s'.n := by
  obtain ⟨a, b, c⟩ := gall_pre e
  have := a.length_le; have := b.length_le; have := c.length_le
  unfold SS.n; omega
theorem gall_same {M : Mach} {ms : List Md} {s s' : SS} (e : gall M s ms = some s') (h : ¬ s.n < s'.n) : s' = s := by
  obtain ⟨a, b, c⟩ := gall_pre e
  have h1 := a.length_le; have h2 := b.length_le; have h3 := c.length_le
  unfold SS.n at h
  have ea := a.eq_of_length (by omega)
  have eb := b.eq_of_length (by omega)
  have ec := c.eq_of_length (by omega)
  cases s; cases s'
  simp only at ea eb ec
  rw [ea, eb, ec]
def nts (k : Nat) : Wd := ⟨List.replicate k 0⟩
def start (k : Nat) : SS := ⟨[nts k], [nts k], [⟨nts k, 0, 0, nts k⟩]⟩
theorem nts_ok {S k : Nat} (h : 2 ≤ S) : WOk S k (nts k) := ⟨List.length_replicate .., fun z hz => by rw [(List.mem_replicate.mp hz).2]; omega⟩
theorem start_ok {M : Mach} {R S k : Nat} (hM : MOk M R S) : SSOk R S k (start k) := by
  have r1 := hM.r1; have s2 := hM.s2
  refine ⟨by simp [start], by simp [start], by simp [start], fun x hx => ?_, fun x hx => ?_, fun x hx => ?_⟩
  · rw [List.mem_singleton.mp hx]; exact nts_ok s2
  · rw [List.mem_singleton.mp hx]; exact nts_ok s2
  · rw [List.mem_singleton.mp hx]; exact ⟨nts_ok s2, nts_ok s2, ⟨Int.le_refl 0, by show (0 : Int) < R; omega⟩, ⟨Int.le_refl 0, by show (0 : Int) < S; omega⟩⟩
def tShut : TStr := ⟨"shut", by decide +kernel⟩
/-- the paper of these sets, sorted, stands at T -/
def ShAt (F : Hp) (T : Addr) (k : Nat) (s : SS) : Prop := ∃ (a b c : Addr) (xs ys zs : List V), F T = some (.tup [.str tShut.x, .int k, .ref a, .ref b, .ref c]) ∧ F a = some (.lst xs) ∧ F b = some (.lst ys) ∧ F c = some (.lst zs) ∧ IsAll F xs (sortD s.A) ∧ IsAll F ys (sortD s.B) ∧ IsAll F zs (sortD s.C)
/-- the same, its lists nobody else's yet -/
def ShO (H F H1 : Hp) (T : Addr) (k : Nat) (s : SS) : Prop := ∃ (a b c : Addr) (xs ys zs : List V), F T = some (.tup [.str tShut.x, .int k, .ref a, .ref b, .ref c]) ∧ Ow H F H1 a (.lst xs) ∧ Ow H F H1 b (.lst ys) ∧ Ow H F H1 c (.lst zs) ∧ a ≠ b ∧ a ≠ c ∧ b ≠ c ∧ IsAll F xs (sortD s.A) ∧ IsAll F ys (sortD s.B) ∧ IsAll F zs (sortD s.C)
theorem Ow.frzn {H F H1 : Hp} {q r : Addr} {o u : HO} (w : Ow H F H1 q o) (e : q ≠ r) : Ow H (upd F r u) H1 q o := ⟨w.n, by rw [upd_ne e]; exact w.f, w.h⟩
theorem ShO_back {mu : Addr → Prop} {H0 F0 F1 H F H1 : Hp} {T : Addr} {k : Nat} {s : SS} (h : ShO H F H1 T k s) (g : Gr mu F0 H0 F1 H) : ShO H0 F H1 T k s := by
  obtain ⟨a, b, c, xs, ys, zs, hT, wa, wb, wc, r⟩ := h
  exact ⟨a, b, c, xs, ys, zs, hT, ⟨g.th _ wa.n, wa.f, wa.h⟩, ⟨g.th _ wb.n, wb.f, wb.h⟩, ⟨g.th _ wc.n, wc.f, wc.h⟩, r⟩
theorem KD.new1 {α : Type} [Dat α] {mu : Addr → Prop} {P : Program} {w : World} {F0 H0 F H : Hp} {p b : Addr} {x : α} {v : V} (g : Gr mu F0 H0 F H) (np : H p = none) (hx : Is F (.ref b) x) : KD P w F (upd H p (DictN P w p [(keyD (Dat.py x), b, v)])) p [x] :=
  ⟨g.free np, [(b, x, v)], upd_same, fun t m => by rw [List.mem_singleton.mp m]; exact hx, rfl⟩
theorem cxP {CX : CXT} {P : Program} {w : World} {K : PySem.W.Frag} {mg : Str → Option Value} {base : Heap} {N : List Str} {qual : Str} {scope : Scope} {f : Addr} {cd : Value} {A : Around} {outer : List Env} {s : Shared} {H : Hp} {E : XK} : (cxOf CX P w K mg base N qual scope f cd A outer s H E).nox.prog = P := rfl
theorem cxW {CX : CXT} {P : Program} {w : World} {K : PySem.W.Frag} {mg : Str → Option Value} {base : Heap} {N : List Str} {qual : Str} {scope : Scope} {f : Addr} {cd : Value} {A : Around} {outer : List Env} {s : Shared} {H : Hp} {E : XK} : (cxOf CX P w K mg base N qual scope f cd A outer s H E).nox.w = w := rfl
def sp_least_told (P : Program) (w : World) : Sp := fun vs H Q _ => ∃ (F : Hp) (m : V) (M : Mach) (R S k : Nat), vs = [m, .int k] ∧ Same F H ∧ Is F m M ∧ MOk M R S ∧ 1 ≤ k ∧ S ^ k ≤ 16 ∧ k ≤ 16 ∧
  (∀ s, Rn M (start k) s → gall M s s.C = none → ∀ F' H', Gr mu0 F H F' H' → Q .non H') ∧
  (∀ s, Rn M (start k) s → gall M s s.C = some s → ∀ F' H' T, Gr mu0 F H F' H' → ShO H F' H' T k s → Q (.ref T) H')
theorem ok_least_told (t : Tx K mg) : FnOk P w K mg base CX0 3 t.a_least_told t.fd_least_told ["machine", "width"] (sp_least_told P w) := by
  refine t.F_least_told.ok sc_least_told (fun vs H Q E h => ?_) (fun cdv A outer s H vs Q E hr h => ?_)
  · obtain ⟨F, m, M, R, S, k, rfl, _⟩ := h
    rfl
  · obtain ⟨F, m, M, R, S, k, rfl, sF, hm, hM, k1, kS, k16, qn, qs⟩ := h
    refine ⟨_, (pss_cons (ps_set (i := 2) sc_least_told.nd rfl (by first | exact Or.inl rfl | exact Or.inr rfl) (pe_op op_repW (pe_tup (pa_cons pe_int pa_nil)) (pv 1)))
      (pss_cons (ps_set (i := 3) sc_least_told.nd rfl (by first | exact Or.inl rfl | exact Or.inr rfl) (pe_dispN (units9 hr) (pv 2) pe_bl))
      (pss_cons (ps_set (i := 4) sc_least_told.nd rfl (by first | exact Or.inl rfl | exact Or.inr rfl) (pe_dispN (units9 hr) (pv 2) pe_bl))
      (pss_cons (ps_set (i := 5) sc_least_told.nd rfl (by first | exact Or.inl rfl | exact Or.inr rfl) (pe_dispN (units9 hr) (pe_tup (pa_cons (pv 2) (pa_cons pe_int (pa_cons pe_int (pa_cons (pv 2) pa_nil))))) pe_bl))
      (pss_cons (ps_set (i := 6) sc_least_told.nd rfl (by first | exact Or.inl rfl | exact Or.inr rfl) pe_bl)
      (pss_cons (ps_while PassesOwn.never (pt_val (pv 6)) (pss_cons (ps_set (i := 6) sc_least_told.nd rfl (by first | exact Or.inl rfl | exact Or.inr rfl) (pe_call (ok_grown t) (hr.mono (by decide)) (by rfl) t.m_grown t.F_grown.kp t.b_grown .nil pass0 (pa_cons (pv 0) (pa_cons (pv 3) (pa_cons (pv 4) (pa_cons (pv 5) pa_nil))))))
      (pss_one (ps_if (pt_cmpR op_isN (pv 6) pe_non (nomark _)) (pss_one (ps_ret pe_non)) pss_nil))))
      (pss_one (ps_ret (pe_tup (pa_cons pe_str (pa_cons (pv 1) (pa_cons (pe_callB (id := "sorted") (call_sortDN rfl (units66 hr)) (by rfl) t.n_sorted (by decide +kernel) (pa_cons (pv 3) pa_nil)) (pa_cons (pe_callB (id := "sorted") (call_sortDN rfl (units66 hr)) (by rfl) t.n_sorted (by decide +kernel) (pa_cons (pv 4) pa_nil)) (pa_cons (pe_callB (id := "sorted") (call_sortDN rfl (units66 hr)) (by rfl) t.n_sorted (by decide +kernel) (pa_cons (pv 5) pa_nil)) pa_nil)))))))))))))), ?_⟩
    have g0 : Gr mu0 F H F H := Gr.refl sF
    -- noughts
    refine ⟨one_le, fun p0 np0 => ⟨_, rfl, ?_⟩⟩
    have g1 := g0.new (o := .tup [.int 0]) np0
    refine rep_wd g1 upd_same k1 (by omega) fun F2 H2 c2 g2 k2 hc2 => ?_
    have iw : Is F2 (.ref c2) (nts k) := wd_is hc2
    -- lefts
    refine fun d1 nd1 => ⟨_, rfl, upd_same, c2, Dat.py (nts k), rfl, Dat.dp (iw.up (g2.own nd1).fh), Kd.k _, Nat.le_trans (Dat.depth (nts k)) (by decide), ?_⟩
    rw [upd_upd, cxP, cxW]
    have g3 := g2.own (o := DictN P w d1 [(keyD (Dat.py (nts k)), c2, .bl true)]) nd1
    have p1 : KD P w F2 _ d1 [nts k] := KD.new1 (v := .bl true) g2 nd1 iw
    have n1 : H d1 = none := g2.th _ nd1
    generalize upd H2 d1 (DictN P w d1 [(keyD (Dat.py (nts k)), c2, .bl true)]) = H3 at g3 p1 ⊢
    -- rights
    refine fun d2 nd2 => ⟨_, rfl, upd_same, c2, Dat.py (nts k), rfl, Dat.dp (iw.up (g3.own nd2).fh), Kd.k _, Nat.le_trans (Dat.depth (nts k)) (by decide), ?_⟩
    try rw [cxP, cxW]
    rw [upd_upd]
    have g4 := g3.own (o := DictN P w d2 [(keyD (Dat.py (nts k)), c2, .bl true)]) nd2
    have p2 : KD P w F2 _ d2 [nts k] := KD.new1 (v := .bl true) g3 nd2 iw
    have p1' := p1.gr ((Gr.refl (mu := mu0) g3.fh).own (o := DictN P w d2 [(keyD (Dat.py (nts k)), c2, .bl true)]) nd2) (fun z => z)
    have n2 : H d2 = none := g3.th _ nd2
    have n12 : d1 ≠ d2 := by
      obtain ⟨_, L, h1, _⟩ := p1
      exact ne_of_none h1 nd2
    generalize upd H3 d2 (DictN P w d2 [(keyD (Dat.py (nts k)), c2, .bl true)]) = H4 at g4 p1' p2 ⊢
    -- middles
    refine fun d3 nd3 => ⟨_, rfl, _, rfl, len4, fun T nT => ⟨ln nT upd_same, T, Dat.py (⟨nts k, 0, 0, nts k⟩ : Md), rfl, ?_, Kd.k _, Nat.le_trans (Dat.depth (⟨nts k, 0, 0, nts k⟩ : Md)) (by decide), ?_⟩⟩
    · exact Dat.dp (⟨T, _, _, _, _, rfl, upd_same, Is.up iw (sm_new (g4.own nd3).fh nT), rfl, rfl, Is.up iw (sm_new (g4.own nd3).fh nT)⟩ : Is _ (.ref T) (⟨nts k, 0, 0, nts k⟩ : Md))
    try rw [cxP, cxW]
    have e5 : F2 d3 = none := g4.free nd3
    have n3 : H d3 = none := g4.th _ nd3
    have n13 : d1 ≠ d3 := by
      obtain ⟨_, L, h1, _⟩ := p1'
      exact ne_of_none h1 nd3
    have n23 : d2 ≠ d3 := by
      obtain ⟨_, L, h1, _⟩ := p2
      exact ne_of_none h1 nd3
    have dT : d3 ≠ T := by
      rintro rfl
      rw [upd_same] at nT; cases nT
    have g5 := (g4.own (o := DictN P w d3 []) nd3).new (o := .tup [.ref c2, .int 0, .int 0, .ref c2]) nT
    have s5 : Same F2 (upd F2 T (.tup [.ref c2, .int 0, .int 0, .ref c2])) := sm_new (Same.refl F2) ((g4.own (o := DictN P w d3 []) nd3).free nT)
    have f5 : (upd F2 T (.tup [.ref c2, .int 0, .int 0, .ref c2])) d3 = none := by rw [upd_ne dT]; exact e5
    have g6 := g5.set (o := DictN P w d3 [(keyD (Dat.py (⟨nts k, 0, 0, nts k⟩ : Md)), T, .bl true)]) f5 (.inl n3)
    have kk : Gr (muP d3) F2 H4 (upd F2 T (.tup [.ref c2, .int 0, .int 0, .ref c2])) (upd (upd (upd H4 d3 (DictN P w d3 [])) T (.tup [.ref c2, .int 0, .int 0, .ref c2])) d3 (DictN P w d3 [(keyD (Dat.py (⟨nts k, 0, 0, nts k⟩ : Md)), T, .bl true)])) :=
      (((Gr.refl (mu := muP d3) g4.fh).own (o := DictN P w d3 []) nd3).new (o := .tup [.ref c2, .int 0, .int 0, .ref c2]) nT).set f5 (.inr rfl)
    have p1 := p1'.gr kk (fun e => n13 e)
    have p2 := p2.gr kk (fun e => n23 e)
    have im : Is (upd F2 T (.tup [.ref c2, .int 0, .int 0, .ref c2])) (.ref T) (⟨nts k, 0, 0, nts k⟩ : Md) := ⟨T, _, _, _, _, rfl, upd_same, Is.up iw s5, rfl, rfl, Is.up iw s5⟩
    have p3 : KD P w (upd F2 T (.tup [.ref c2, .int 0, .int 0, .ref c2])) (upd (upd (upd H4 d3 (DictN P w d3 [])) T (.tup [.ref c2, .int 0, .int 0, .ref c2])) d3 (DictN P w d3 [(keyD (Dat.py (⟨nts k, 0, 0, nts k⟩ : Md)), T, .bl true)])) d3 [(⟨nts k, 0, 0, nts k⟩ : Md)] :=
      ⟨f5, [(T, ⟨nts k, 0, 0, nts k⟩, .bl true)], upd_same, fun t m => by rw [List.mem_singleton.mp m]; exact im, rfl⟩
    generalize upd (upd (upd H4 d3 (DictN P w d3 [])) T (.tup [.ref c2, .int 0, .int 0, .ref c2])) d3 (DictN P w d3 [(keyD (Dat.py (⟨nts k, 0, 0, nts k⟩ : Md)), T, .bl true)]) = H6 at g6 p1 p2 p3 ⊢
    generalize upd F2 T (.tup [.ref c2, .int 0, .int 0, .ref c2]) = F6 at g6 p1 p2 p3
    -- while new
    refine ⟨fun j σ G => ∃ (F5 : Hp) (s : SS) (b : Bool), j = 2 * (5000 - s.n) + b.toNat ∧ σ = [some m, some (.int k), some (.ref c2), some (.ref d1), some (.ref d2), some (.ref d3), some (.bl b)] ∧ Gr mu0 F H F5 G ∧ Rn M (start k) s ∧ KD P w F5 G d1 s.A ∧ KD P w F5 G d2 s.B ∧ KD P w F5 G d3 s.C ∧ (b = false → gall M s s.C = some s),
      ⟨_, F6, start k, true, rfl, rfl, g6, .refl, p1, p2, p3, (fun z => nomatch z)⟩, ?_⟩
    rintro j σ G ⟨F5, s, b, rfl, rfl, g, rn, p1, p2, p3, hb⟩
    have ok := rn.ok hM k1 (start_ok hM)
    have fw := ok.few hM.r4 hM.s4 kS
    refine ⟨_, rfl, b, rfl, ?_⟩
    cases b with
    | false =>
      rw [if_neg (fun z => nomatch z)]
      have hs := hb rfl
      have nA : ∀ x ∈ s.A, x.l ≠ [] := fun x hx e => by have := (ok.a x hx).len; rw [e] at this; simp at this; omega
      have nB : ∀ x ∈ s.B, x.l ≠ [] := fun x hx e => by have := (ok.b x hx).len; rw [e] at this; simp at this; omega
      refine ⟨_, rfl, _, rfl, rSortDN.wd (P := P) (w := w) g.fh p1 nA fun xs a al na => ?_⟩
      have g7 := g.own (o := .lst xs) na
      have k7 := (Gr.refl (mu := mu0) g.fh).own (o := .lst xs) na
      have wa : Ow H F5 (upd G a (.lst xs)) a (.lst xs) := Ow.mk1 g na
      have p2 := p2.gr k7 (fun z => z)
      have p3 := p3.gr k7 (fun z => z)
      generalize upd G a (.lst xs) = G7 at g7 k7 p2 p3 wa ⊢
      refine ⟨_, rfl, rSortDN.wd (P := P) (w := w) g7.fh p2 nB fun ys b bl nb => ?_⟩
      have g8 := g7.own (o := .lst ys) nb
      have k8 := (Gr.refl (mu := mu0) g7.fh).own (o := .lst ys) nb
      have wb : Ow H F5 (upd G7 b (.lst ys)) b (.lst ys) := Ow.mk1 g7 nb
      have ab := wa.ne nb
      have wa := wa.own (u := .lst ys) nb
      have p3 := p3.gr k8 (fun z => z)
      generalize upd G7 b (.lst ys) = G8 at g8 k8 p3 wa wb ⊢
      refine ⟨_, rfl, rSortDN.kd (P := P) (w := w) g8.fh p3 fun zs c cl nc => ?_⟩
      have g9 := g8.own (o := .lst zs) nc
      have wc : Ow H F5 (upd G8 c (.lst zs)) c (.lst zs) := Ow.mk1 g8 nc
      have ac := wa.ne nc
      have bc := wb.ne nc
      have wa := wa.own (u := .lst zs) nc
      have wb := wb.own (u := .lst zs) nc
      refine ⟨five_le, fun T nT => ?_⟩
      have g10 := g9.new (o := .tup [.str tShut.x, .int k, .ref a, .ref b, .ref c]) nT
      have s10 := ((Gr.refl (mu := mu0) g9.fh).new (o := .tup [.str tShut.x, .int k, .ref a, .ref b, .ref c]) nT).ff
      exact qs s rn hs _ _ T g10 ⟨a, b, c, xs, ys, zs, upd_same, wa.new nT, wb.new nT, wc.new nT, ab, ac, bc, IsAll.up al s10, IsAll.up bl s10, IsAll.up cl s10⟩
    | true =>
      rw [if_pos rfl]
      refine ⟨_, fun _ _ h => h, ?_⟩
      refine ⟨_, rfl, _, rfl, _, rfl, _, rfl, F5, m, M, R, S, k, d1, d2, d3, s, rfl, g.fh, hm.up g.ff, hM, k1, kS, k16, p1, p2, p3, n12, n13, n23, ok, fun hn F7 G7 g7 => ?_, fun s' hs F7 G7 g7 q1 q2 q3 => ?_⟩
      · have g8 := g.thn g7 (fun c hc => .inr (by rcases hc with rfl | rfl | rfl; exact n1; exact n2; exact n3))
        refine ⟨_, rfl, rfl, _, rfl, ?_⟩
        refine ifT (by decide) ?_
        exact qn s rn hn F7 G7 g8
      · have g8 := g.thn g7 (fun c hc => .inr (by rcases hc with rfl | rfl | rfl; exact n1; exact n2; exact n3))
        refine ⟨_, rfl, rfl, _, rfl, ?_⟩
        refine ifF (by simp) ?_
        have fw' := (rn.step hs).ok hM k1 (start_ok hM) |>.few hM.r4 hM.s4 kS
        have ll := gall_len hs
        have nn : s'.n ≤ 4128 := by unfold SS.n; omega
        refine ⟨_, ?_, F7, s', decide (s.n < s'.n), rfl, rfl, g8, rn.step hs, q1, q2, q3, fun e => ?_⟩
        · by_cases c : s.n < s'.n
          · rw [decide_eq_true c]; show 2 * (5000 - s'.n) + 1 < 2 * (5000 - s.n) + 1; omega
          · rw [decide_eq_false c]; show 2 * (5000 - s'.n) + 0 < 2 * (5000 - s.n) + 1; omega
        · have e2 := gall_same hs (of_decide_eq_false e)
          rw [e2] at hs ⊢
          exact hs
/-! ### parts, gone back (plain) -/
abbrev Part := T2 Int (PTup PI)
structure POk (R : Nat) (n : Nat) (p : Part) : Prop where
  r0 : 0 ≤ p.a
  r1 : p.a < R
  nd : Nd p.b.l
  len : p.b.l.length ≤ n
def endF (M : Mach) (r j : Nat) : Option Part := if entAt M r j = .emp then some ⟨(r : Int), ⟨[⟨0, (j : Int)⟩]⟩⟩ else none
def endsR (M : Mach) (r s : Nat) : List Part := (List.range s).filterMap (endF M r)
def endsOf (M : Mach) (S r : Nat) : List Part := (List.range r).flatMap fun r => endsR M r S
theorem fm_succ {α : Type} (f : Nat → Option α) (n : Nat) : (List.range (n + 1)).filterMap f = (List.range n).filterMap f ++ (f n).toList := by
  rw [List.range_succ, List.filterMap_append]
  cases e : f n <;> simp [e]
theorem fl_succ {α : Type} (f : Nat → List α) (n : Nat) : (List.range (n + 1)).flatMap f = (List.range n).flatMap f ++ f n := by
  rw [List.range_succ, List.flatMap_append]
  simp
theorem fm_len {α : Type} (f : Nat → Option α) (n : Nat) : ((List.range n).filterMap f).length ≤ n := by
  have := List.length_filterMap_le f (List.range n)
  rw [List.length_range] at this; exact this
theorem fl_len {α : Type} (f : Nat → List α) (b : Nat) (h : ∀ r, (f r).length ≤ b) : ∀ n, ((List.range n).flatMap f).length ≤ n * b
  | 0 => by simp
  | n + 1 => by
    have := fl_len f b h n
    have := h n
    rw [fl_succ, List.length_append, Nat.succ_mul]; omega
def sp_ends_of : Sp := fun vs H Q _ => ∃ (F : Hp) (m : V) (M : Mach) (R S : Nat), vs = [m] ∧ Same F H ∧ Is F m M ∧ MOk M R S ∧ ∀ (F' H' : Hp) (c : Addr) (xs : List V), Gr mu0 F H F' H' → F' c = some (.lst xs) → IsAll F' xs (endsOf M S R) → Q (.ref c) H'
theorem ok_ends_of (t : Tx K mg) : FnOk P w K mg base CX0 1 t.a_ends_of t.fd_ends_of ["machine"] sp_ends_of := by
  refine t.F_ends_of.ok sc_ends_of (fun vs H Q E h => ?_) (fun cdv A outer s H vs Q E hr h => ?_)
  · obtain ⟨F, m, M, R, S, rfl, _⟩ := h
    rfl
  · obtain ⟨F, m, M, R, S, rfl, sF, hm, hM, q⟩ := h
    refine ⟨_, (pss_cons (ps_set (i := 1) sc_ends_of.nd rfl (by first | exact Or.inl rfl | exact Or.inr rfl) (pe_lst pa_nil))
      (pss_cons (ps_for PassesOwn.never rfl (pi_range1 (by rfl) t.n_range (pa_cons (pe_callB (id := "len") call_lenQ (by rfl) t.n_len (by decide +kernel) (pa_cons (pv 0) pa_nil)) pa_nil)) (pg_name (i := 2) sc_ends_of.nd rfl (by first | exact Or.inl rfl | exact Or.inr rfl)) (pss_one (ps_for PassesOwn.never rfl (pi_range1 (by rfl) t.n_range (pa_cons (pe_callB (id := "len") call_lenQ (by rfl) t.n_len (by decide +kernel) (pa_cons (pe_ix ix_list (pv 0) (pv 2) (fun _ _ => rfl)) pa_nil)) pa_nil)) (pg_name (i := 3) sc_ends_of.nd rfl (by first | exact Or.inl rfl | exact Or.inr rfl)) (pss_one (ps_if (pt_cmpR (op_eqD hr.units) (pe_ix ix_list (pe_ix ix_list (pv 0) (pv 2) (fun _ _ => rfl)) (pv 3) (fun _ _ => rfl)) (pe_tup pa_nil) (nomark _)) (pss_one (ps_expr (pe_bm PySem.F.plainAttrs_list PySem.F.slot_list_append PySem.F.type_list_append mt_append (pv 1) (pa_cons (pe_tup (pa_cons (pv 2) (pa_cons (pe_tupF (pa_cons (pe_tup (pa_cons pe_int (pa_cons (pv 3) pa_nil))) pa_nil)) pa_nil))) pa_nil)))) pss_nil)))))
      (pss_one (ps_ret (pv 1))))), ?_⟩
    have g0 : Gr mu0 F H F H := Gr.refl sF
    have r4 := hM.r4
    have s4 := hM.s4
    obtain ⟨am, rws, rfl, ham, hrs⟩ := id hm
    have lrs : rws.length = R := hrs.1.trans hM.len
    refine ⟨nil_le, fun D nD => ?_⟩
    have g1 := g0.own (o := .lst []) nD
    have w1 : Ow H F (upd H D (.lst [])) D (.lst []) := Ow.mk1 g0 nD
    generalize upd H D (.lst []) = H1 at g1 w1 ⊢
    refine ⟨_, rfl, am, rws, rfl, .inl (SqL.of (g1.fh _ _ ham)), ?_⟩
    rw [lrs]
    refine ⟨R, rfl, by omega, by omega, for_range (lo := 0) (n := ((R : Int)).toNat) (fun r σ G => ∃ (F1 : Hp) (xs : List V) (v2 v3 : Option V), σ = [some (.ref am), some (.ref D), v2, v3] ∧ Gr mu0 F H F1 G ∧ Ow H F1 G D (.lst xs) ∧ IsAll F1 xs (endsOf M S r))
      ⟨F, [], none, none, rfl, g1, w1, All2.nil⟩ ?_ ?_⟩
    · rintro r σ G hr' ⟨F1, xs, v2, v3, rfl, g, w, al⟩
      have hr' : r < R := by rw [Int.toNat_natCast] at hr'; exact hr'
      have er : ((0 : Int) + (r : Int)) = (r : Int) := by omega
      rw [er]
      have il : r < rws.length := by omega
      obtain ⟨row0, hM0, a0, es0, er0, ha0, hes0⟩ := hrs.get' (List.getElem?_eq_getElem il)
      have ls0 : es0.length = S := hes0.1.trans (hM.row _ (List.mem_of_getElem? hM0))
      have hx0 : rws[r]? = some (.ref a0) := (List.getElem?_eq_getElem il).trans (congrArg some er0)
      refine ⟨_, rfl, _, rfl, am, rws, _, _, rfl, rfl, SqL.of (g.fh _ _ (g.ff _ _ ham)), atI_nat (j := r) hx0, a0, es0, rfl, .inl (SqL.of (g.fh _ _ (g.ff _ _ ha0))), ?_⟩
      rw [ls0]
      refine ⟨S, rfl, by omega, by omega, for_range (lo := 0) (n := ((S : Int)).toNat) (fun j σ G => ∃ (F1 : Hp) (xs : List V) (v3 : Option V), σ = [some (.ref am), some (.ref D), some (.int r), v3] ∧ Gr mu0 F H F1 G ∧ Ow H F1 G D (.lst xs) ∧ IsAll F1 xs (endsOf M S r ++ endsR M r j))
        ⟨F1, xs, v3, rfl, g, w, by rw [show endsR M r 0 = [] from rfl, List.append_nil]; exact al⟩ ?_ ?_⟩
      · rintro j σ U hj ⟨F2, ys, v3, rfl, g2, w2, al2⟩
        have hj : j < S := by rw [Int.toNat_natCast] at hj; exact hj
        have ej : ((0 : Int) + (j : Int)) = (j : Int) := by omega
        rw [ej]
        have jl : j < es0.length := by omega
        obtain ⟨d, hd, ie⟩ := hes0.get' (List.getElem?_eq_getElem jl)
        obtain ⟨row', eM, eR, eo⟩ := ent_of hM (r := (r : Int)) (s := (j : Int)) (by omega) (by omega) (by omega) (by omega)
        rw [Int.toNat_natCast] at eM eR
        cases hM0.symm.trans eM
        have ed : d = entAt M r j := Option.some.inj (hd.symm.trans eR)
        subst ed
        have sc : endsR M r (j + 1) = endsR M r j ++ (endF M r j).toList := fm_succ (endF M r) j
        unfold endF at sc
        have ly : ys.length ≤ 4 * 4 + 4 := by
          rw [al2.1, List.length_append]
          have h1 : (endsOf M S r).length ≤ r * S := fl_len (fun r => endsR M r S) S (fun r => fm_len (endF M r) S) r
          have h2 : (endsR M r j).length ≤ j := fm_len (endF M r) j
          have : r * S ≤ 4 * 4 := Nat.mul_le_mul (by omega) s4
          omega
        refine ⟨_, rfl, _, rfl, am, rws, _, _, rfl, rfl, SqL.of (g2.fh _ _ (g2.ff _ _ ham)), atI_nat (j := r) hx0, _, rfl, a0, es0, _, _, rfl, rfl, SqL.of (g2.fh _ _ (g2.ff _ _ ha0)), atI_nat (j := j) (List.getElem?_eq_getElem jl), nil_le, fun e0 ne0 => ?_⟩
        have g3 := g2.own (o := .tup []) ne0
        have w3 := w2.own (u := .tup []) ne0
        refine eq_dat (a := entAt M r j) (b := Ent.emp) ((Is.up ie g2.ff).up g3.fh) ⟨e0, rfl, upd_same⟩ ⟨_, rfl, ?_⟩
        generalize upd U e0 (.tup []) = U1 at g3 w3 ⊢
        by_cases ee : entAt M r j = .emp
        · refine ifT (decide_eq_true ee) ?_
          rw [if_pos ee] at sc
          refine ⟨_, rfl, .inl ⟨rfl, _, SqL.of w3.h⟩, _, rfl, _, rfl, two_le, fun t1 n1 => ⟨one_le, fun t2 o2 d2 n2 => ⟨two_le, fun t3 n3 => ?_⟩⟩⟩
          have g4 := g3.new (o := .tup [.int 0, .int j]) n1
          have w4 := w3.new (u := .tup [.int 0, .int j]) n1
          have s4' : Same F2 (upd F2 t1 (.tup [.int 0, .int j])) := sm_new (Same.refl F2) (g3.fh.free n1)
          have i1 : Is (upd F2 t1 (.tup [.int 0, .int j])) (.ref t1) (⟨0, (j : Int)⟩ : PI) := ⟨t1, _, _, rfl, upd_same, rfl, rfl⟩
          generalize upd F2 t1 (.tup [.int 0, .int j]) = F3 at g4 w4 s4' i1
          generalize upd U1 t1 (.tup [.int 0, .int j]) = U2 at g4 w4 n2 n3 ⊢
          have g5 := g4.new (o := .frz o2 (.tup [.ref t1])) n2
          have w5 := w4.new (u := .frz o2 (.tup [.ref t1])) n2
          have s5 : Same F3 (upd F3 t2 (.frz o2 (.tup [.ref t1]))) := sm_new (Same.refl F3) (g4.fh.free n2)
          have i2 : Is (upd F3 t2 (.frz o2 (.tup [.ref t1]))) (.ref t2) (⟨[⟨0, (j : Int)⟩]⟩ : PTup PI) := ⟨t2, _, rfl, ⟨o2, upd_same, d2⟩, All2.one (Is.up i1 s5)⟩
          generalize upd F3 t2 (.frz o2 (.tup [.ref t1])) = F4 at g5 w5 s5 i2
          generalize upd U2 t2 (.frz o2 (.tup [.ref t1])) = U3 at g5 w5 n3 ⊢
          have g6 := g5.new (o := .tup [.int r, .ref t2]) n3
          have w6 := w5.new (u := .tup [.int r, .ref t2]) n3
          have s6 : Same F4 (upd F4 t3 (.tup [.int r, .ref t2])) := sm_new (Same.refl F4) (g5.fh.free n3)
          refine ⟨D, _, _, rfl, rfl, w6.h, lt_size (by omega), _, ys ++ [.ref t3], _, rfl, g6.set w6.f (.inl w6.n), w6.set, ?_⟩
          rw [sc, Option.toList_some, ← List.append_assoc]
          exact (((al2.up s4').up s5).up s6).app (All2.one ⟨t3, _, _, rfl, upd_same, rfl, Is.up i2 s6⟩)
        · refine ifF (decide_eq_false ee) ?_
          rw [if_neg ee] at sc
          exact ⟨F2, ys, _, rfl, g3, w3, by rw [sc, Option.toList_none, List.append_nil]; exact al2⟩
      · rintro σ U ⟨F2, ys, v3, rfl, g2, w2, al2⟩
        rw [Int.toNat_natCast] at al2
        exact ⟨F2, ys, _, _, rfl, g2, w2, by rw [show endsOf M S (r + 1) = endsOf M S r ++ endsR M r S from fl_succ (fun r => endsR M r S) r]; exact al2⟩
    · rintro σ G ⟨F1, xs, v2, v3, rfl, g, w, al⟩
      rw [Int.toNat_natCast] at al
      have g2 := g.frz w.h w.n w.f
      exact ⟨_, rfl, q _ _ D xs g2 upd_same (IsAll.up al (sm_new (Same.refl F1) w.f))⟩
/-! ### what comes ahead of a part -/
def aheadF (M : Mach) (p : Part) (r j : Nat) : Option Part := match entAt M r j with
  | .emp => none
  | .go pu wa to => if to = p.a ∧ (look p.b.l (-wa)).getD pu = pu then some ⟨(r : Int), ⟨srt ((put p.b.l (-wa) j).map fun q => ⟨q.a + wa, q.b⟩)⟩⟩ else none
def aheadR (M : Mach) (p : Part) (r s : Nat) : List Part := (List.range s).filterMap (aheadF M p r)
def aheadOf (M : Mach) (S : Nat) (p : Part) (r : Nat) : List Part := (List.range r).flatMap fun r => aheadR M p r S
theorem gdI (o : Option Int) (x : Int) : (o.map V.int).getD (.int x) = .int (o.getD x) := by cases o <;> rfl
theorem dict_pairsT {K : PySem.W.Frag} {H : Hp} {a : Addr} {xs : List V} {l : List PI} {Q : VK} (hx : IsAll H xs l) (ha : FT H a xs) (q : ∀ p, H p = none → Q (.ref p) (upd H p (.dK (dI (merge [] l))))) : rDictT K [.ref a] H Q := by
  obtain ⟨ps, e, p⟩ := pairs_of (K := K) hx
  refine rDictT.mk (by rw [← e]; exact ha) p fun d nd => ?_
  have e2 : mergeK [] (dI l) = dI (merge [] l) := dI_merge l []
  rw [e2]
  exact q d nd
theorem mts {α β : Type} {f : α → β} {l : List α} {i : Nat} {x : α} (h : l[i]? = some x) : (l.take (i + 1)).map f = (l.take i).map f ++ [f x] := by
  rw [List.take_add_one, h, List.map_append]; rfl
theorem vi2 {a b : Int} : decide (V.int a = V.int b) = decide (a = b) := decide_eq_decide.mpr ⟨V.int.inj, fun e => by rw [e]⟩
def sp_ahead_of : Sp := fun vs H Q _ => ∃ (F : Hp) (m v : V) (M : Mach) (R S n : Nat) (p : Part), vs = [m, v] ∧ Same F H ∧ Is F m M ∧ MOk M R S ∧ Is F v p ∧ POk R n p ∧ n ≤ 1000 ∧ ∀ (F' H' : Hp) (c : Addr) (xs : List V), Gr mu0 F H F' H' → F' c = some (.lst xs) → IsAll F' xs (aheadOf M S p R) → Q (.ref c) H'
theorem ok_ahead_of (t : Tx K mg) : FnOk P w K mg base CX0 1 t.a_ahead_of t.fd_ahead_of ["machine", "part"] sp_ahead_of := by
  refine t.F_ahead_of.ok sc_ahead_of (fun vs H Q E h => ?_) (fun cdv A outer s H vs Q E hr h => ?_)
  · obtain ⟨F, m, v, M, R, S, n, p, rfl, _⟩ := h
    rfl
  · obtain ⟨F, m, v, M, R, S, n, p, rfl, sF, hm, hM, hv, okp, hn, q⟩ := h
    refine ⟨_, (pss_cons (ps_set (i := 2) sc_ahead_of.nd rfl (by first | exact Or.inl rfl | exact Or.inr rfl) (pe_callTy (T := "dict") (call_dictT rfl) (by rfl) t.n_dict (by decide +kernel) (pa_cons (pe_ix ix_tup (pv 1) pe_int (fun _ _ => rfl)) pa_nil)))
      (pss_cons (ps_set (i := 3) sc_ahead_of.nd rfl (by first | exact Or.inl rfl | exact Or.inr rfl) (pe_lst pa_nil))
      (pss_cons (ps_for PassesOwn.never rfl (pi_range1 (by rfl) t.n_range (pa_cons (pe_callB (id := "len") call_lenQ (by rfl) t.n_len (by decide +kernel) (pa_cons (pv 0) pa_nil)) pa_nil)) (pg_name (i := 4) sc_ahead_of.nd rfl (by first | exact Or.inl rfl | exact Or.inr rfl)) (pss_one (ps_for PassesOwn.never rfl (pi_range1 (by rfl) t.n_range (pa_cons (pe_callB (id := "len") call_lenQ (by rfl) t.n_len (by decide +kernel) (pa_cons (pe_ix ix_list (pv 0) (pv 4) (fun _ _ => rfl)) pa_nil)) pa_nil)) (pg_name (i := 5) sc_ahead_of.nd rfl (by first | exact Or.inl rfl | exact Or.inr rfl)) (pss_cons (ps_set (i := 6) sc_ahead_of.nd rfl (by first | exact Or.inl rfl | exact Or.inr rfl) (pe_ix ix_list (pe_ix ix_list (pv 0) (pv 4) (fun _ _ => rfl)) (pv 5) (fun _ _ => rfl)))
      (pss_one (ps_if (PW.pt (pw_and (pt_cmpR (op_neD hr.units) (pv 6) (pe_tup pa_nil) (nomark _)) (pw_and (pt_cmpR op_eq (pe_ix ix_tup (pv 6) pe_int (fun _ _ => rfl)) (pe_ix ix_tup (pv 1) pe_int (fun _ _ => rfl)) (nomark _)) (pw_and1 (pt_cmpR op_eq (pe_dget2 (hu_of hr) (pv 2) (pe_un un_neg (pe_ix ix_tup (pv 6) pe_int (fun _ _ => rfl))) (pe_ix ix_tup (pv 6) pe_int (fun _ _ => rfl)) ⟨by rfl, by rfl, by rfl, by rfl⟩) (pe_ix ix_tup (pv 6) pe_int (fun _ _ => rfl)) (nomark _)))))) (pss_cons (ps_set (i := 7) sc_ahead_of.nd rfl (by first | exact Or.inl rfl | exact Or.inr rfl) (pe_callTy (T := "dict") call_dictD (by rfl) t.n_dict (by decide +kernel) (pa_cons (pv 2) pa_nil)))
      (pss_cons (ps_dput (hu_of hr) (pv 7) (pe_un un_neg (pe_ix ix_tup (pv 6) pe_int (fun _ _ => rfl))) (pv 5) rfl)
      (pss_one (ps_expr (pe_bm PySem.F.plainAttrs_list PySem.F.slot_list_append PySem.F.type_list_append mt_append (pv 3) (pa_cons (pe_tup (pa_cons (pv 4) (pa_cons (pe_callTy (T := "tuple") call_tupF (by rfl) t.n_tuple (by decide +kernel) (pa_cons (pe_callB (id := "sorted") call_sortQ (by rfl) t.n_sorted (by decide +kernel) (pa_cons (pe_lock (pe_lc (own := [("place", 8), ("one", 9)]) (tt := tYes) rfl sc_ahead_of.nd (pi_items (pv 7)) (blkOk_by (N := N_ahead_of) (sc := defScope s_ahead_of) (by decide +kernel)) (fun _ _ _ _ _ => (pg_tupK (K := K) (n := 2) rfl rfl (pgs_cons (pg_name (i := 8) sc_ahead_of.nd rfl (by first | exact Or.inl rfl | exact Or.inr rfl)) (pgs_cons (pg_name (i := 9) sc_ahead_of.nd rfl (by first | exact Or.inl rfl | exact Or.inr rfl)) pgs_nil)))) (fun _ _ _ _ _ => pts_nil) (fun _ _ _ _ _ => (pe_tup (pa_cons (pe_op op_add (pv 8) (pe_ix (ixK (K := K) (r := rIxT) rfl ix_tup) (pv 6) pe_int (fun _ _ => rfl))) (pa_cons (pv 9) pa_nil)))))) pa_nil)) pa_nil)) pa_nil))) pa_nil)))))) pss_nil))))))
      (pss_one (ps_ret (pv 3)))))), ?_⟩
    have g0 : Gr mu0 F H F H := Gr.refl sF
    have r4 := hM.r4
    have s4 := hM.s4
    obtain ⟨am, rws, rfl, ham, hrs⟩ := id hm
    have lrs : rws.length = R := hrs.1.trans hM.len
    obtain ⟨p0, x1, x2, rfl, hp, e1, ⟨b0, ps, rfl, hb, hps⟩⟩ := hv
    have e1 : x1 = .int p.a := e1
    subst e1
    have hps : IsAll F ps p.b.l := hps
    refine ⟨_, rfl, p0, _, _, _, rfl, rfl, SqT.of (sF _ _ hp), atI_nat (j := 1) rfl, dict_pairsT (hps.up sF) (hb.up sF) fun d nd => ?_⟩
    rw [merge_nd (l := []) (m := p.b.l) okp.nd, List.nil_append]
    have ga := g0.new (o := .dK (dI p.b.l)) nd
    have fd : (upd F d (.dK (dI p.b.l))) d = some (.dK (dI p.b.l)) := upd_same
    have hp := ga.ff _ _ hp
    have ham := ga.ff _ _ ham
    have hrs := IsAll.up hrs ga.ff
    generalize upd F d (.dK (dI p.b.l)) = F0 at ga fd hp ham hrs
    generalize upd H d (.dK (dI p.b.l)) = H0 at ga ⊢
    refine ⟨nil_le, fun D nD => ?_⟩
    have g1 := ga.own (o := .lst []) nD
    have w1 : Ow H F0 (upd H0 D (.lst [])) D (.lst []) := Ow.mk1 ga nD
    generalize upd H0 D (.lst []) = H1 at g1 w1 ⊢
    refine ⟨_, rfl, am, rws, rfl, .inl (SqL.of (g1.fh _ _ ham)), ?_⟩
    rw [lrs]
    refine ⟨R, rfl, by omega, by omega, for_range (lo := 0) (n := ((R : Int)).toNat) (fun r σ G => ∃ (F1 : Hp) (xs : List V) (v4 v5 v6 v7 v8 v9 : Option V), σ = [some (.ref am), some (.ref p0), some (.ref d), some (.ref D), v4, v5, v6, v7, v8, v9] ∧ Gr mu0 F H F1 G ∧ Same F0 F1 ∧ Ow H F1 G D (.lst xs) ∧ IsAll F1 xs (aheadOf M S p r))
      ⟨F0, [], none, none, none, none, none, none, rfl, g1, Same.refl F0, w1, All2.nil⟩ ?_ ?_⟩
    · rintro r σ G hr' ⟨F1, xs, v4, v5, v6, v7, v8, v9, rfl, g, gb, w, al⟩
      have hr' : r < R := by rw [Int.toNat_natCast] at hr'; exact hr'
      have er : ((0 : Int) + (r : Int)) = (r : Int) := by omega
      rw [er]
      have il : r < rws.length := by omega
      obtain ⟨row0, hM0, a0, es0, er0, ha0, hes0⟩ := hrs.get' (List.getElem?_eq_getElem il)
      have ls0 : es0.length = S := hes0.1.trans (hM.row _ (List.mem_of_getElem? hM0))
      have hx0 : rws[r]? = some (.ref a0) := (List.getElem?_eq_getElem il).trans (congrArg some er0)
      refine ⟨_, rfl, _, rfl, am, rws, _, _, rfl, rfl, SqL.of (g.fh _ _ (gb _ _ ham)), atI_nat (j := r) hx0, a0, es0, rfl, .inl (SqL.of (g.fh _ _ (gb _ _ ha0))), ?_⟩
      rw [ls0]
      refine ⟨S, rfl, by omega, by omega, for_range (lo := 0) (n := ((S : Int)).toNat) (fun j σ G => ∃ (F1 : Hp) (xs : List V) (v5 v6 v7 v8 v9 : Option V), σ = [some (.ref am), some (.ref p0), some (.ref d), some (.ref D), some (.int r), v5, v6, v7, v8, v9] ∧ Gr mu0 F H F1 G ∧ Same F0 F1 ∧ Ow H F1 G D (.lst xs) ∧ IsAll F1 xs (aheadOf M S p r ++ aheadR M p r j))
        ⟨F1, xs, v5, v6, v7, v8, v9, rfl, g, gb, w, by rw [show aheadR M p r 0 = [] from rfl, List.append_nil]; exact al⟩ ?_ ?_⟩
      · rintro j σ U hj ⟨F2, ys, v5, v6, v7, v8, v9, rfl, g2, gb2, w2, al2⟩
        have hj : j < S := by rw [Int.toNat_natCast] at hj; exact hj
        have ej : ((0 : Int) + (j : Int)) = (j : Int) := by omega
        rw [ej]
        have jl : j < es0.length := by omega
        obtain ⟨de, hd, ie⟩ := hes0.get' (List.getElem?_eq_getElem jl)
        obtain ⟨row', eM, eR, eo⟩ := ent_of hM (r := (r : Int)) (s := (j : Int)) (by omega) (by omega) (by omega) (by omega)
        rw [Int.toNat_natCast] at eM eR
        cases hM0.symm.trans eM
        have ed : de = entAt M r j := Option.some.inj (hd.symm.trans eR)
        subst ed
        have sc : aheadR M p r (j + 1) = aheadR M p r j ++ (aheadF M p r j).toList := fm_succ (aheadF M p r) j
        unfold aheadF at sc
        have ly : ys.length ≤ 4 * 4 + 4 := by
          rw [al2.1, List.length_append]
          have h1 : (aheadOf M S p r).length ≤ r * S := fl_len (fun r => aheadR M p r S) S (fun r => fm_len (aheadF M p r) S) r
          have h2 : (aheadR M p r j).length ≤ j := fm_len (aheadF M p r) j
          have : r * S ≤ 4 * 4 := Nat.mul_le_mul (by omega) s4
          omega
        refine ⟨_, rfl, _, rfl, am, rws, _, _, rfl, rfl, SqL.of (g2.fh _ _ (gb2 _ _ ham)), atI_nat (j := r) hx0, _, rfl, a0, es0, _, _, rfl, rfl, SqL.of (g2.fh _ _ (gb2 _ _ ha0)), atI_nat (j := j) (List.getElem?_eq_getElem jl), ?_⟩
        have ie2 := Is.up ie gb2
        generalize es0[j] = ve at ie2
        refine ⟨_, rfl, nil_le, fun e0 ne0 => ?_⟩
        have g3 := g2.own (o := .tup []) ne0
        have gb3 : Same F0 F2 := gb2
        have w3 := w2.own (u := .tup []) ne0
        refine ne_dat (a := entAt M r j) (b := Ent.emp) (ie2.up g3.fh) ⟨e0, rfl, upd_same⟩ ⟨_, rfl, ?_⟩
        generalize upd U e0 (.tup []) = U1 at g3 w3 ⊢
        cases ee : entAt M r j with
        | emp =>
          rw [ee] at sc
          refine ifF (by rw [decide_eq_true rfl]; rfl) ?_
          exact ⟨F2, ys, _, _, _, _, _, rfl, g3, gb3, w3, by rw [sc, Option.toList_none, List.append_nil]; exact al2⟩
        | go pu wa to =>
          rw [ee] at sc ie2 eo
          obtain ⟨o1, o2, o3⟩ := eo.ok _ _ _ rfl
          obtain ⟨ae, rfl, hae⟩ := ie2
          have h6 := SqT.of (K := K) (g3.fh _ _ hae)
          have hp0 := SqT.of (K := K) (g3.fh _ _ (gb3 _ _ hp))
          refine ifT (by rw [decide_eq_false (fun z => nomatch z)]; rfl) ?_
          refine ⟨_, rfl, ae, _, _, _, rfl, rfl, h6, atI_nat (j := 2) rfl, _, rfl, p0, _, _, _, rfl, rfl, hp0, atI_nat (j := 0) rfl, rfl, _, rfl, ?_⟩
          rw [vi2]
          by_cases t1 : to = p.a
          · refine ifT (decide_eq_true t1) ?_
            refine ⟨_, rfl, d, rfl, .inl ⟨_, .inl (g3.fh _ _ (gb3 _ _ fd))⟩, _, rfl, ae, _, _, _, rfl, rfl, h6, atI_nat (j := 1) rfl, _, rfl, _, rfl, ae, _, _, _, rfl, rfl, h6, atI_nat (j := 0) rfl, _, DGet.k (k := Sum.inl (-wa)) (g3.fh _ _ (gb3 _ _ fd)), ?_⟩
            rw [dI_val, gdI]
            refine ⟨_, rfl, ae, _, _, _, rfl, rfl, h6, atI_nat (j := 0) rfl, rfl, _, rfl, ?_⟩
            rw [vi2]
            by_cases t2 : (look p.b.l (-wa)).getD pu = pu
            · refine ifT (decide_eq_true t2) ?_
              have sc : aheadR M p r (j + 1) = aheadR M p r j ++ [⟨(r : Int), ⟨srt ((put p.b.l (-wa) j).map fun q => ⟨q.a + wa, q.b⟩)⟩⟩] := by rw [sc]; dsimp only; rw [if_pos ⟨t1, t2⟩, Option.toList_some]
              refine ⟨_, rfl, d, _, rfl, .inl (g3.fh _ _ (gb3 _ _ fd)), fun d2 nd2 => ?_⟩
              have g4 := g3.own (o := .dK (dI p.b.l)) nd2
              have gb4 : Same F0 F2 := gb3
              have w4 := w3.own (u := .dK (dI p.b.l)) nd2
              have wk4 : Ow H F2 (upd U1 d2 (.dK (dI p.b.l))) d2 (.dK (dI p.b.l)) := Ow.mk1 g3 nd2
              have D2 := w3.ne nd2
              generalize upd U1 d2 (.dK (dI p.b.l)) = U2 at g4 w4 wk4 ⊢
              have h64 := SqT.of (K := K) (g4.fh _ _ hae)
              refine ⟨_, rfl, _, rfl, _, rfl, ae, _, _, _, rfl, rfl, h64, atI_nat (j := 1) rfl, _, rfl, d2, _, rfl, DPut.k (k := Sum.inl (-wa)) wk4.h (by unfold dI; rw [List.length_map]; exact lt_size (by have := okp.len; omega)), ?_⟩
              rw [dI_put]
              have g5 := g4.set (o := .dK (dI (put p.b.l (-wa) j))) wk4.f (.inl wk4.n)
              have gb5 : Same F0 F2 := gb4
              have w5 := w4.other (u := .dK (dI (put p.b.l (-wa) j))) D2
              have wk5 := wk4.set (u := .dK (dI (put p.b.l (-wa) j)))
              have ll : (put p.b.l (-wa) j).length ≤ 1001 := by have := put_len p.b.l (-wa) j; have := okp.len; omega
              generalize put p.b.l (-wa) j = L at g5 w5 wk5 sc ll ⊢
              generalize upd U2 d2 (.dK (dI L)) = U3 at g5 w5 wk5 ⊢
              refine ⟨_, rfl, .inl ⟨rfl, _, SqL.of w5.h⟩, _, rfl, d2, _, wk5.h, trivial, fun od => ?_⟩
              have sL := lock_in (d := d2) (o := .frz od (.dK (dI L))) g5.fh
              have gl : Gr mu0 _ (upd U3 d2 (.frz od (.dK (dI L)))) _ (upd U3 d2 (.frz od (.dK (dI L)))) := Gr.refl sL
              have dl : (dI L).length = L.length := by unfold dI; rw [List.length_map]
              have hael : (fun c => if c = d2 then none else F2 c) ae = some (.tup [.int pu, .int wa, .int to]) := by
                show (if ae = d2 then none else F2 ae) = _
                rw [if_neg (ne_of_none hae wk5.f)]
                exact hae
              generalize eHl : upd U3 d2 (.frz od (.dK (dI L))) = Hl at gl
              generalize eFl : (fun c => if c = d2 then none else F2 c) = Fl at gl hael
              have hdl : Hl d2 = some (.frz od (.dK (dI L))) := by rw [← eHl]; exact upd_same
              refine ⟨_, rfl, d2, od, dI L, rfl, hdl, fun D3 nD3 => lc_it walk_items (fun i G => ∃ F5 xs, Gr mu0 Fl Hl F5 G ∧ Ow Hl F5 G D3 (.lst xs) ∧ IsAll F5 xs ((L.take i).map fun q => (⟨q.a + wa, q.b⟩ : PI))) ⟨Fl, [], gl.own nD3, Ow.mk1 gl nD3, All2.nil⟩ (fun i G _ ⟨F5, xs, g, _⟩ => g.fr _ _ hdl (fun z => z)) ?_ ?_⟩
              · rintro i x G5 G6 hi ⟨F5, zs, g, w, al⟩ ⟨T, y1, y2, rfl, nT, rfl, f1, f2⟩
                rw [dl] at hi
                have f1 : (dI L)[i]?.map (fun kv => kV kv.1) = some y1 := f1
                have f2 : (dI L)[i]?.map Prod.snd = some y2 := f2
                rw [dI_get hi] at f1 f2
                cases f1
                cases f2
                have g1 := g.new (o := .tup [.int L[i].a, .int L[i].b]) nT
                have w1 := w.new (u := .tup [.int L[i].a, .int L[i].b]) nT
                have s1 : Same F5 (upd F5 T (.tup [.int L[i].a, .int L[i].b])) := sm_new (Same.refl F5) (g.fh.free nT)
                refine ⟨T, _, rfl, SqT.of upd_same, rfl, _, _, rfl, _, _, rfl, rfl, rfl, yes ⟨_, rfl, _, rfl, ae, _, _, _, rfl, rfl, SqT.of (g1.fh _ _ (g1.ff _ _ hael)), atI_nat (j := 1) rfl, _, _, rfl, rfl, _, rfl, two_le, fun T2 nT2 => ?_⟩⟩
                have g2 := g1.new (o := .tup [.int (L[i].a + wa), .int L[i].b]) nT2
                have w2 := w1.new (u := .tup [.int (L[i].a + wa), .int L[i].b]) nT2
                have s2 : Same (upd F5 T (.tup [.int L[i].a, .int L[i].b])) (upd (upd F5 T (.tup [.int L[i].a, .int L[i].b])) T2 (.tup [.int (L[i].a + wa), .int L[i].b])) := sm_new (Same.refl _) (g1.fh.free nT2)
                refine ⟨zs, w2.h, ?_, _, _, g2.set w2.f (.inl w2.n), w2.set, ?_⟩
                · rw [al.1, List.length_map, List.length_take]; exact lt_size (by omega)
                · rw [mts (List.getElem?_eq_getElem hi)]
                  exact ((IsAll.up al s1).up s2).app (All2.one ⟨T2, _, _, rfl, upd_same, rfl, rfl⟩)
              · rintro G5 ⟨F5, zs, g, w, al⟩
                rw [dl, List.take_length] at al
                subst eHl
                subst eFl
                obtain ⟨h1, h2, h3⟩ := lock_out g5.fh wk5.h g
                refine ⟨h1, ?_⟩
                have hDd : D3 ≠ d2 := by
                  rintro rfl
                  rw [w.h] at h1; cases h1
                have g6 := g5.trans h3
                have w6 := w5.call h3 (fun z => z)
                have s26 := h3.ff
                have gb6 := gb5.trans s26
                refine sort_pairs (K := K) (l := L.map fun q => (⟨q.a + wa, q.b⟩ : PI)) (xs := zs) h3.fh (al.up h2) (SqL.of (by rw [upd_ne hDd]; exact w.h)) fun us pq np hus => ?_
                generalize (fun c => if c = d2 then F2 d2 else F5 c) = F6 at g6 gb6 w6 s26 hus
                generalize upd G5 d2 (.dK (dI L)) = G6 at g6 w6 np ⊢
                have g7 := g6.own (o := .lst us) np
                have w7 := w6.own (u := .lst us) np
                refine rTupF.mk (SqL.of upd_same) fun t2 o2 do2 n2 => ⟨two_le, fun t3 n3 => ?_⟩
                generalize upd G6 pq (.lst us) = G7 at g7 w7 n2 n3 ⊢
                have g8 := g7.new (o := .frz o2 (.tup us)) n2
                have w8 := w7.new (u := .frz o2 (.tup us)) n2
                have s8 : Same F6 (upd F6 t2 (.frz o2 (.tup us))) := sm_new (Same.refl F6) (g7.fh.free n2)
                have i8 : Is (upd F6 t2 (.frz o2 (.tup us))) (.ref t2) (⟨srt (L.map fun q => (⟨q.a + wa, q.b⟩ : PI))⟩ : PTup PI) := ⟨t2, us, rfl, ⟨o2, upd_same, do2⟩, IsAll.up hus s8⟩
                generalize upd F6 t2 (.frz o2 (.tup us)) = F8 at g8 w8 s8 i8
                generalize upd G7 t2 (.frz o2 (.tup us)) = G8 at g8 w8 n3 ⊢
                have g9 := g8.new (o := .tup [.int r, .ref t2]) n3
                have w9 := w8.new (u := .tup [.int r, .ref t2]) n3
                have s9 : Same F8 (upd F8 t3 (.tup [.int r, .ref t2])) := sm_new (Same.refl F8) (g8.fh.free n3)
                refine ⟨D, _, _, rfl, rfl, w9.h, lt_size (by omega), _, ys ++ [.ref t3], _, _, _, _, _, rfl, g9.set w9.f (.inl w9.n), ?_, w9.set, ?_⟩
                · exact (gb6.trans s8).trans s9
                · rw [sc, ← List.append_assoc]
                  exact ((((al2.up s26).up s8).up s9)).app (All2.one ⟨t3, _, _, rfl, upd_same, rfl, Is.up i8 s9⟩)
            · refine ifF (decide_eq_false t2) ?_
              have sc : aheadR M p r (j + 1) = aheadR M p r j := by rw [sc]; dsimp only; rw [if_neg (fun z => t2 z.2), Option.toList_none, List.append_nil]
              exact ⟨F2, ys, _, _, _, _, _, rfl, g3, gb3, w3, by rw [sc]; exact al2⟩
          · refine ifF (decide_eq_false t1) ?_
            have sc : aheadR M p r (j + 1) = aheadR M p r j := by rw [sc]; dsimp only; rw [if_neg (fun z => t1 z.1), Option.toList_none, List.append_nil]
            exact ⟨F2, ys, _, _, _, _, _, rfl, g3, gb3, w3, by rw [sc]; exact al2⟩
      · rintro σ U ⟨F2, ys, v5, v6, v7, v8, v9, rfl, g2, gb2, w2, al2⟩
        rw [Int.toNat_natCast] at al2
        exact ⟨F2, ys, _, _, _, _, _, _, rfl, g2, gb2, w2, by rw [show aheadOf M S p (r + 1) = aheadOf M S p r ++ aheadR M p r S from fl_succ (fun r => aheadR M p r S) r]; exact al2⟩
    · rintro σ G ⟨F1, xs, v4, v5, v6, v7, v8, v9, rfl, g, gb, w, al⟩
      rw [Int.toNat_natCast] at al
      exact ⟨_, rfl, q _ _ D xs (g.frz w.h w.n w.f) upd_same (IsAll.up al (sm_new (Same.refl F1) w.f))⟩
/-! ### all that come ahead, each once, in order -/
theorem cx_prog {CX : CXT} {P : Program} {w : World} {K : PySem.W.Frag} {mg : Str → Option Value} {base : Heap} {N : List Str} {qual : Str} {scope : Scope} {f : Addr} {cd : Value} {A : Around} {outer : List Env} {s : Shared} {H : Hp} {E : XK} : (cxOf CX P w K mg base N qual scope f cd A outer s H E).nox.prog = P := rfl
theorem cx_w {CX : CXT} {P : Program} {w : World} {K : PySem.W.Frag} {mg : Str → Option Value} {base : Heap} {N : List Str} {qual : Str} {scope : Scope} {f : Addr} {cd : Value} {A : Around} {outer : List Env} {s : Shared} {H : Hp} {E : XK} : (cxOf CX P w K mg base N qual scope f cd A outer s H E).nox.w = w := rfl
def addK (ks : List Part) (x : Part) : List Part := if x ∈ ks then ks else ks ++ [x]
theorem hasD_mem (l : DL Part) (x : Part) : hasD l x = true ↔ x ∈ l.map fun t => t.2.1 := by
  unfold hasD
  rw [List.any_eq_true, List.mem_map]
  exact ⟨fun ⟨t, m, e⟩ => ⟨t, m, of_decide_eq_true e⟩, fun ⟨t, m, e⟩ => ⟨t, m, decide_eq_true e⟩⟩
theorem putD_keys (l : DL Part) (b : Addr) (x : Part) (v : V) : (putD l b x v).map (fun t => t.2.1) = addK (l.map fun t => t.2.1) x := by
  unfold putD addK
  by_cases h : hasD l x = true
  · rw [if_pos h, if_pos ((hasD_mem l x).mp h), List.map_map]
    refine List.map_congr_left fun t _ => ?_
    show (if t.2.1 = x then (t.1, t.2.1, v) else t).2.1 = t.2.1
    split <;> rfl
  · rw [if_neg h, if_neg (fun z => h ((hasD_mem l x).mpr z)), List.map_append]; rfl
def goB (M : Mach) (R S : Nat) (ps : List Part) : List Part := sortD ((ps.flatMap fun p => aheadOf M S p R).foldl addK [])
def sp_gone_back : Sp := fun vs H Q _ => ∃ (F : Hp) (m : V) (M : Mach) (R S n : Nat) (a : Addr) (xs : List V) (ps : List Part), vs = [m, .ref a] ∧ Same F H ∧ Is F m M ∧ MOk M R S ∧ F a = some (.lst xs) ∧ IsAll F xs ps ∧ (∀ p ∈ ps, POk R n p) ∧ n ≤ 1000 ∧ ps.length ≤ 10000 ∧
  ∀ (F' H' : Hp) (c : Addr) (ys : List V), Gr mu0 F H F' H' → F' c = some (.lst ys) → IsAll F' ys (goB M R S ps) → Q (.ref c) H'
theorem ok_gone_back (t : Tx K mg) : FnOk P w K mg base CX0 2 t.a_gone_back t.fd_gone_back ["machine", "parts"] sp_gone_back := by
  refine t.F_gone_back.ok sc_gone_back (fun vs H Q E h => ?_) (fun cdv A outer s H vs Q E hr h => ?_)
  · obtain ⟨F, m, M, R, S, n, a, xs, ps, rfl, _⟩ := h
    rfl
  · obtain ⟨F, m, M, R, S, n, a, xs, ps, rfl, sF, hm, hM, ha, hxs, okp, hn, lp, q⟩ := h
    refine ⟨_, (pss_cons (ps_set (i := 2) sc_gone_back.nd rfl (by first | exact Or.inl rfl | exact Or.inr rfl) pe_nnew)
      (pss_cons (ps_for PassesOwn.never rfl (pi_list (pv 1)) (pg_name (i := 3) sc_gone_back.nd rfl (by first | exact Or.inl rfl | exact Or.inr rfl)) (pss_one (ps_for PassesOwn.never rfl (pi_list (pe_call (ok_ahead_of t) (hr.mono (by decide)) (by rfl) t.m_ahead_of t.F_ahead_of.kp t.b_ahead_of .nil pass0 (pa_cons (pv 0) (pa_cons (pv 3) pa_nil)))) (pg_name (i := 4) sc_gone_back.nd rfl (by first | exact Or.inl rfl | exact Or.inr rfl)) (pss_one (ps_nput (units9 hr) (pv 2) (pv 4) pe_bl rfl)))))
      (pss_one (ps_ret (pe_callB (id := "sorted") (call_sortDN rfl (units66 hr)) (by rfl) t.n_sorted (by decide +kernel) (pa_cons (pv 2) pa_nil)))))), ?_⟩
    have g0 : Gr mu0 F H F H := Gr.refl sF
    have r4 := hM.r4
    have s4 := hM.s4
    have la : ∀ p, (aheadOf M S p R).length ≤ 16 := fun p => by
      have h1 : (aheadOf M S p R).length ≤ R * S := fl_len (fun r => aheadR M p r S) S (fun r => fm_len (aheadF M p r) S) R
      have : R * S ≤ 4 * 4 := Nat.mul_le_mul r4 s4
      omega
    rw [cx_prog, cx_w]
    refine fun d nd => ?_
    rw [show DictN P w d [] = DictD P w d ([] : DL Part) from rfl]
    have g1 := g0.own (o := DictD P w d ([] : DL Part)) nd
    have w1 : Ow H F (upd H d (DictD P w d ([] : DL Part))) d (DictD P w d ([] : DL Part)) := Ow.mk1 g0 nd
    generalize upd H d (DictD P w d ([] : DL Part)) = H1 at g1 w1 ⊢
    refine ⟨_, rfl, a, rfl, ⟨_, SqL.of (g1.fh _ _ ha)⟩, for_list (K := K) (a := a) (xs := xs) (fun i σ G => ∃ (F1 : Hp) (L : DL Part) (v3 v4 : Option V), σ = [some m, some (.ref a), some (.ref d), v3, v4] ∧ Gr mu0 F H F1 G ∧ Ow H F1 G d (DictD P w d L) ∧ KeysD F1 L ∧ L.map (fun t => t.2.1) = ((ps.take i).flatMap fun p => aheadOf M S p R).foldl addK [] ∧ L.length ≤ 16 * i)
      ⟨F, [], none, none, rfl, g1, w1, (fun t z => nomatch z), rfl, Nat.le_refl _⟩ (fun i σ G _ ⟨F1, _, _, _, _, g, _⟩ => SqL.of (g.fh _ _ (g.ff _ _ ha))) ?_ ?_⟩
    · rintro i y σ G hi ⟨F1, L, v3, v4, rfl, g, wo, kd, ek, lL⟩
      obtain ⟨p, hp, ip⟩ := hxs.get' hi
      have il : i < ps.length := (List.getElem?_eq_some_iff.mp hp).1
      refine ⟨_, rfl, _, rfl, F1, m, y, M, R, S, n, p, rfl, g.fh, hm.up g.ff, hM, Is.up ip g.ff, okp p (List.mem_of_getElem? hp), hn, fun F2 G2 c zs g2 hc al => ?_⟩
      have w2 := wo.call g2 (fun z => z)
      have kd2 := kd.up g2.ff
      have g3 := g.trans g2
      have lz : zs.length ≤ 16 := by rw [al.1]; exact la p
      refine ⟨c, rfl, ⟨_, SqL.of (g3.fh _ _ hc)⟩, for_list (K := K) (a := c) (xs := zs) (fun j σ U => ∃ (L2 : DL Part) (v4 : Option V), σ = [some m, some (.ref a), some (.ref d), some y, v4] ∧ Gr mu0 F H F2 U ∧ Ow H F2 U d (DictD P w d L2) ∧ KeysD F2 L2 ∧ L2.map (fun t => t.2.1) = ((aheadOf M S p R).take j).foldl addK (L.map fun t => t.2.1) ∧ L2.length ≤ 16 * i + j)
        ⟨L, v4, rfl, g3, w2, kd2, rfl, lL⟩ (fun j σ U _ ⟨_, _, _, gu, _⟩ => SqL.of (gu.fh _ _ hc)) ?_ ?_⟩
      · rintro j z σ U hj ⟨L2, v4, rfl, gu, wu, ku, eu, lu⟩
        obtain ⟨o, ho, io⟩ := al.get' hj
        have jl : j < zs.length := (List.getElem?_eq_some_iff.mp hj).1
        obtain ⟨b, x1, x2, rfl, hb, i1, i2⟩ := id io
        refine ⟨_, rfl, _, rfl, d, _, rfl, NPut.d (x := o) wu.h (ku.up gu.fh) (io.up gu.fh) (lt_size (by omega)), ?_⟩
        refine ⟨putD L2 b o (.bl true), _, rfl, gu.set wu.f (.inl wu.n), wu.set, ku.put io, ?_, by have := putD_len L2 b o (.bl true); omega⟩
        rw [putD_keys, eu, List.take_add_one, ho, List.foldl_append]
        rfl
      · rintro σ U ⟨L2, v4, rfl, gu, wu, ku, eu, lu⟩
        refine ⟨F2, L2, _, _, rfl, gu, wu, ku, ?_, by omega⟩
        rw [eu, al.1, List.take_length, ek, List.take_add_one, hp, List.flatMap_append, List.foldl_append]
        simp
    · rintro σ G ⟨F1, L, v3, v4, rfl, g, wo, kd, ek, lL⟩
      rw [hxs.1, List.take_length] at ek
      refine ⟨_, rfl, rSortDN.mk (P := P) (w := w) g.fh wo.h kd fun ys pq al np => ?_⟩
      rw [ek] at al
      have g2 := g.new (o := .lst ys) np
      exact q _ _ pq ys g2 upd_same (IsAll.up al (sm_new (Same.refl F1) (g.fh.free np)))
/-! ### the parts of a depth (plain) -/
def lvl (M : Mach) (R S : Nat) : Nat → List Part
  | 0 => sortD (endsOf M S R)
  | d + 1 => goB M R S (lvl M R S d)
theorem mem_addK : ∀ (xs ks : List Part) (x : Part), x ∈ xs.foldl addK ks → x ∈ ks ∨ x ∈ xs
  | [], ks, x, h => .inl h
  | y :: xs, ks, x, h => by
    rcases mem_addK xs (addK ks y) x h with h | h
    · unfold addK at h
      split at h
      · exact .inl h
      · rcases List.mem_append.mp h with h | h
        · exact .inl h
        · rw [List.mem_singleton.mp h]; exact .inr (List.mem_cons_self ..)
    · exact .inr (List.mem_cons_of_mem _ h)
theorem ends_ok {M : Mach} {R S : Nat} : ∀ p ∈ endsOf M S R, POk R 1 p := fun p h => by
  obtain ⟨r, hr, h⟩ := List.mem_flatMap.mp h
  obtain ⟨j, hj, h⟩ := List.mem_filterMap.mp h
  have hr := List.mem_range.mp hr
  unfold endF at h
  split at h
  · cases h
    exact ⟨by show (0 : Int) ≤ (r : Int); omega, by show (r : Int) < R; omega, by show (([⟨0, (j : Int)⟩] : List PI).map (·.a)).Nodup; simp, Nat.le_refl _⟩
  · cases h
theorem ahead_ok {M : Mach} {R S n : Nat} {p : Part} (hp : POk R n p) : ∀ o ∈ aheadOf M S p R, POk R (n + 1) o := fun o h => by
  obtain ⟨r, hr, h⟩ := List.mem_flatMap.mp h
  obtain ⟨j, hj, h⟩ := List.mem_filterMap.mp h
  have hr := List.mem_range.mp hr
  unfold aheadF at h
  split at h
  · cases h
  · split at h
    · cases h
      rename_i pu wa to _ _ _
      have pm := srt_perm ((put p.b.l (-wa) j).map fun q => (⟨q.a + wa, q.b⟩ : PI))
      refine ⟨by show (0 : Int) ≤ (r : Int); omega, by show (r : Int) < R; omega, ?_, ?_⟩
      · show ((srt ((put p.b.l (-wa) j).map fun q => (⟨q.a + wa, q.b⟩ : PI))).map (·.a)).Nodup
        rw [(pm.map _).nodup_iff, List.map_map]
        have nd := nd_put hp.nd (-wa) j
        have nd : ((put p.b.l (-wa) j).map (·.a)).Nodup := nd
        have e : (put p.b.l (-wa) j).map ((fun q : PI => q.a) ∘ fun q => (⟨q.a + wa, q.b⟩ : PI)) = ((put p.b.l (-wa) j).map (·.a)).map (· + wa) := by rw [List.map_map]; rfl
        rw [e, List.nodup_iff_pairwise_ne, List.pairwise_map]
        exact (List.nodup_iff_pairwise_ne.mp nd).imp fun h z => h (by omega)
      · show (srt ((put p.b.l (-wa) j).map fun q => (⟨q.a + wa, q.b⟩ : PI))).length ≤ n + 1
        rw [pm.length_eq, List.length_map]
        have := put_len p.b.l (-wa) j
        have := hp.len
        omega
    · cases h
theorem lvl_ok {M : Mach} {R S : Nat} : ∀ (d : Nat), ∀ p ∈ lvl M R S d, POk R (d + 1) p
  | 0, p, h => ends_ok p ((sortD_perm _).mem_iff.mp h)
  | d + 1, p, h => by
    have h := (sortD_perm _).mem_iff.mp h
    rcases mem_addK _ _ p h with h | h
    · cases h
    · obtain ⟨o, ho, h⟩ := List.mem_flatMap.mp h
      exact ahead_ok (lvl_ok d o ho) p h
/-! ### lengths of levels -/
/-! ### a machine on its way -/
/-- a Goer stands at g, its dict at d -/
structure GoAt (C : Addr) (H : Hp) (g d : Addr) (tb : V) (r s : Int) (l : List PI) (n : Int) : Prop where
  ob : ∃ dx, H g = some (.ins C dx (Goer_F tb (.int r) (.int s) (.ref d) (.int n)))
  dc : H d = some (.dK (dI l))
theorem GoAt.ne {C : Addr} {H : Hp} {g d : Addr} {tb : V} {r s : Int} {l : List PI} {n : Int} (h : GoAt C H g d tb r s l n) : g ≠ d := by
  obtain ⟨dx, e⟩ := h.ob
  exact ne_of e h.dc (by intro z; cases z)
theorem GoAt.gr {mu : Addr → Prop} {C : Addr} {F H F' H' : Hp} {g d : Addr} {tb : V} {r s : Int} {l : List PI} {n : Int} (h : GoAt C H g d tb r s l n) (a : Gr mu F H F' H') (hg : ¬ mu g) (hd : ¬ mu d) : GoAt C H' g d tb r s l n := by
  obtain ⟨dx, e⟩ := h.ob
  exact ⟨⟨dx, a.fr _ _ e hg⟩, a.fr _ _ h.dc hd⟩
/-- places, and strips that are told, as a setup -/
abbrev Setup := T3 Int Int (List PI)
def sp_Goer_init (C : Addr) : Sp := fun vs H Q _ => ∃ (F : Hp) (g dx : Addr) (tb u : V) (x : Setup), vs = [.ref g, tb, u] ∧ H g = some (.ins C dx []) ∧ F g = none ∧ Same F H ∧ Is F u x ∧
  ∀ (d : Addr) (H' : Hp), H d = none → Gr (muP g) F H F H' → GoAt C H' g d tb x.a x.b (merge [] x.c) 0 → Q .non H'
theorem ok_Goer_init (t : Tx K mg) : FnOk P w K mg base CX0 1 t.a_Goer_init t.fd_Goer_init ["self", "machine", "setup"] (sp_Goer_init t.C_Goer) := by
  refine t.F_Goer_init.ok sc_Goer_init (fun vs H Q E h => ?_) (fun cdv A outer s H vs Q E hr h => ?_)
  · obtain ⟨F, g, dx, tb, u, x, rfl, _⟩ := h
    rfl
  · obtain ⟨F, g, dx, tb, u, x, rfl, hg, fg, sF, hu, q⟩ := h
    refine ⟨_, (pss_cons (ps_fld (pv 0) (pv 1) rfl)
      (pss_cons (ps_fld (pv 0) (pe_ix ix_tup (pv 2) pe_int (fun _ _ => rfl)) rfl)
      (pss_cons (ps_fld (pv 0) (pe_ix ix_tup (pv 2) pe_int (fun _ _ => rfl)) rfl)
      (pss_cons (ps_fld (pv 0) (pe_callTy (T := "dict") (call_dictQ rfl) (by rfl) t.n_dict (by decide +kernel) (pa_cons (pe_ix ix_tup (pv 2) pe_int (fun _ _ => rfl)) pa_nil)) rfl)
      (pss_one (ps_fld (pv 0) pe_int rfl)))))), ?_⟩
    obtain ⟨p, x1, x2, x3, rfl, hp, e1, e2, hl⟩ := hu
    have e1 : x1 = .int x.a := e1
    have e2 : x2 = .int x.b := e2
    subst e1
    subst e2
    obtain ⟨a, xs, rfl, ha, hxs⟩ := hl
    have g0 : Gr (muP g) F H F H := Gr.refl sF
    refine ⟨_, rfl, _, rfl, g, t.C_Goer, dx, [], rfl, hg, t.cl_Goer, t.nA_Goer_table, by show 0 < 1000; decide, ?_⟩
    have g1 := g0.set (o := .ins t.C_Goer dx [("table", tb)]) fg (.inr rfl)
    rw [Goer_mk0]
    refine ⟨_, rfl, p, _, _, _, rfl, rfl, SqT.of (g1.fh _ _ hp), atI_nat (j := 0) rfl, _, rfl, g, t.C_Goer, dx, _, rfl, upd_same, t.cl_Goer, t.nA_Goer_row, by show 1 < 1000; decide, ?_⟩
    have g2 := g1.set (o := .ins t.C_Goer dx [("table", tb), ("row", .int x.a)]) fg (.inr rfl)
    rw [Goer_mk1]
    refine ⟨_, rfl, p, _, _, _, rfl, rfl, SqT.of (g2.fh _ _ hp), atI_nat (j := 1) rfl, _, rfl, g, t.C_Goer, dx, _, rfl, upd_same, t.cl_Goer, t.nA_Goer_spot, by show 2 < 1000; decide, ?_⟩
    have g3 := g2.set (o := .ins t.C_Goer dx [("table", tb), ("row", .int x.a), ("spot", .int x.b)]) fg (.inr rfl)
    rw [Goer_mk2]
    refine ⟨_, rfl, p, _, _, _, rfl, rfl, SqT.of (g3.fh _ _ hp), atI_nat (j := 2) rfl, ?_⟩
    refine dict_pairs (hxs.up g3.fh) (SqL.of (g3.fh _ _ ha)) fun d nd => ?_
    have g4 := g3.own (o := .dK (dI (merge [] x.c))) nd
    have gd : g ≠ d := ne_of_none upd_same nd
    refine ⟨_, rfl, g, t.C_Goer, dx, _, rfl, (upd_ne gd).trans upd_same, t.cl_Goer, t.nA_Goer_signs, by show 3 < 1000; decide, ?_⟩
    have g5 := g4.set (o := .ins t.C_Goer dx [("table", tb), ("row", .int x.a), ("spot", .int x.b), ("signs", .ref d)]) fg (.inr rfl)
    rw [Goer_mk3]
    refine ⟨_, rfl, g, t.C_Goer, dx, _, rfl, upd_same, t.cl_Goer, t.nA_Goer_steps, by show 4 < 1000; decide, ?_⟩
    have g6 := g5.set (o := .ins t.C_Goer dx [("table", tb), ("row", .int x.a), ("spot", .int x.b), ("signs", .ref d), ("steps", .int 0)]) fg (.inr rfl)
    rw [Goer_mk4]
    exact q d _ (g3.th _ nd) g6 ⟨⟨dx, upd_same⟩, by rw [upd_ne gd.symm, upd_ne gd.symm, upd_same]⟩
def sp_Goer_entry (C : Addr) : Sp := fun vs H Q _ => ∃ (F : Hp) (g d : Addr) (tb : V) (M : Mach) (r s : Int) (l : List PI) (n : Int) (row : List Ent) (e : Ent), vs = [.ref g] ∧ Same F H ∧ Is F tb M ∧ GoAt C H g d tb r s l n ∧
  0 ≤ r ∧ M[r.toNat]? = some row ∧ 0 ≤ (look l s).getD 0 ∧ row[((look l s).getD 0).toNat]? = some e ∧ ∀ v, Is F v e → Q v H
theorem ok_Goer_entry (t : Tx K mg) : FnOk P w K mg base CX0 1 t.a_Goer_entry t.fd_Goer_entry ["self"] (sp_Goer_entry t.C_Goer) := by
  refine t.F_Goer_entry.ok sc_Goer_entry (fun vs H Q E h => ?_) (fun cdv A outer s H vs Q E hr h => ?_)
  · obtain ⟨F, g, d, tb, M, r, s, l, n, row, e, rfl, _⟩ := h
    rfl
  · obtain ⟨F, g, d, tb, M, r, s, l, n, row, e, rfl, sF, hM, hg, hr0, hrow, hs0, he, q⟩ := h
    refine ⟨_, (pss_one (ps_ret (pe_ix ix_list (pe_ix ix_list (pe_fld (pv 0) rfl) (pe_fld (pv 0) rfl) (fun _ _ => rfl)) (pe_dget2 (hu_of hr) (pe_fld (pv 0) rfl) (pe_fld (pv 0) rfl) pe_int ⟨by rfl, by rfl, by rfl, by rfl⟩) (fun _ _ => rfl)))), ?_⟩
    obtain ⟨⟨dx, ho⟩, hd⟩ := id hg
    obtain ⟨a, rs, rfl, ha, hrs⟩ := hM
    obtain ⟨x, hx, b, es, rfl, hb, hes⟩ := hrs.get hrow
    obtain ⟨y, hy, hye⟩ := hes.get he
    refine ⟨_, rfl, g, t.C_Goer, dx, _, _, rfl, ho, t.cl_Goer, t.nA_Goer_table, Goer_get_table, ?_⟩
    refine ⟨_, rfl, g, t.C_Goer, dx, _, _, rfl, ho, t.cl_Goer, t.nA_Goer_row, Goer_get_row, a, _, _, _, rfl, rfl, SqL.of (sF _ _ ha), at_of (Int.toNat_of_nonneg hr0).symm hx, ?_⟩
    refine ⟨_, rfl, g, t.C_Goer, dx, _, _, rfl, ho, t.cl_Goer, t.nA_Goer_signs, Goer_get_signs, d, rfl, .inl ⟨_, .inl hd⟩, _, rfl, g, t.C_Goer, dx, _, _, rfl, ho, t.cl_Goer, t.nA_Goer_spot, Goer_get_spot, _, DGet.k (k := Sum.inl s) hd, ?_⟩
    rw [dI_val]
    have e1 : ((look l s).map V.int).getD (.int 0) = .int ((look l s).getD 0) := by cases look l s <;> rfl
    rw [e1]
    exact ⟨b, _, _, _, rfl, rfl, SqL.of (sF _ _ hb), at_of (Int.toNat_of_nonneg hs0).symm hy, q _ hye⟩
def sp_Goer_step (C : Addr) : Sp := fun vs H Q _ => ∃ (F : Hp) (g d : Addr) (tb : V) (M : Mach) (r s : Int) (l : List PI) (n : Int) (row : List Ent) (e : Ent), vs = [.ref g] ∧ Same F H ∧ F g = none ∧ F d = none ∧ Is F tb M ∧ GoAt C H g d tb r s l n ∧
  0 ≤ r ∧ M[r.toNat]? = some row ∧ 0 ≤ (look l s).getD 0 ∧ row[((look l s).getD 0).toNat]? = some e ∧ l.length ≤ 100000 ∧
  (e = .emp → ∀ H', Gr mu0 F H F H' → Q (.bl false) H') ∧
  (∀ p w r', e = .go p w r' → ∀ H', Gr (fun c => c = g ∨ c = d) F H F H' → GoAt C H' g d tb r' (s + w) (put l s p) (n + 1) → Q (.bl true) H')
theorem ok_Goer_step (t : Tx K mg) : FnOk P w K mg base CX0 2 t.a_Goer_step t.fd_Goer_step ["self"] (sp_Goer_step t.C_Goer) := by
  refine t.F_Goer_step.ok sc_Goer_step (fun vs H Q E h => ?_) (fun cdv A outer s H vs Q E hr h => ?_)
  · obtain ⟨F, g, d, tb, M, r, s, l, n, row, e, rfl, _⟩ := h
    rfl
  · obtain ⟨F, g, d, tb, M, r, s, l, n, row, e, rfl, sF, fg, fd, hM, hg, hr0, hrow, hs0, he, hl, q1, q2⟩ := h
    refine ⟨_, (pss_cons (ps_set (i := 1) sc_Goer_step.nd rfl (by first | exact Or.inl rfl | exact Or.inr rfl) (pe_meth0 (pv 0) t.cl_Goer t.M_Goer_entry (ok_Goer_entry t) (hr.mono (by decide)) t.b_Goer_entry .nil pass0))
      (pss_cons (ps_if (pt_cmpR (op_eqD hr.units) (pv 1) (pe_tup pa_nil) (nomark _)) (pss_one (ps_ret pe_bl)) pss_nil)
      (pss_cons (ps_dput (hu_of hr) (pe_fld (pv 0) rfl) (pe_fld (pv 0) rfl) (pe_ix ix_tup (pv 1) pe_int (fun _ _ => rfl)) rfl)
      (pss_cons (ps_fldaug (pv 0) (pe_ix ix_tup (pv 1) pe_int (fun _ _ => rfl)) in_add)
      (pss_cons (ps_fld (pv 0) (pe_ix ix_tup (pv 1) pe_int (fun _ _ => rfl)) rfl)
      (pss_cons (ps_fldaug (pv 0) pe_int in_add)
      (pss_one (ps_ret pe_bl)))))))), ?_⟩
    obtain ⟨⟨dx, ho⟩, hd⟩ := id hg
    have gd := hg.ne
    have g0 : Gr (fun c => c = g ∨ c = d) F H F H := Gr.refl sF
    have g00 : Gr mu0 F H F H := Gr.refl sF
    refine ⟨_, rfl, g, dx, _, rfl, ho, Goer_no (by decide +kernel) (by decide +kernel) (by decide +kernel) (by decide +kernel) (by decide +kernel), F, g, d, tb, M, r, s, l, n, row, e, rfl, sF, hM, hg, hr0, hrow, hs0, he, fun v hv => ?_⟩
    refine ⟨_, rfl, nil_le, fun p np => ?_⟩
    refine eq_dat (a := e) (b := Ent.emp) (hv.up (g0.own np).fh) ⟨p, rfl, upd_same⟩ ?_
    refine ⟨_, rfl, ?_⟩
    refine ite2 (fun c => ?_) (fun c => ?_)
    · exact q1 (of_decide_eq_true c) _ (g00.own np)
    · cases e with
      | emp => exact absurd (decide_eq_true rfl) c
      | go pu wa ro =>
        obtain ⟨a, rfl, ha⟩ := hv
        have g1 := g0.own (o := .tup []) np
        have gp : g ≠ p := ne_of_none ho np
        have dp : d ≠ p := ne_of_none hd np
        have ho1 := (upd_ne (H := H) (o := .tup []) gp).trans ho
        have hd1 := (upd_ne (H := H) (o := .tup []) dp).trans hd
        -- self.signs[self.spot] = entry[0]
        refine ⟨_, rfl, a, _, _, _, rfl, rfl, SqT.of (g1.fh _ _ ha), atI_nat (j := 0) rfl, _, rfl, g, t.C_Goer, dx, _, _, rfl, ho1, t.cl_Goer, t.nA_Goer_signs, Goer_get_signs, _, rfl, g, t.C_Goer, dx, _, _, rfl, ho1, t.cl_Goer, t.nA_Goer_spot, Goer_get_spot, d, _, rfl, DPut.k (k := Sum.inl s) hd1 (by show (dI l).length < _; unfold dI; rw [List.length_map]; exact lt_size (by omega)), ?_⟩
        rw [dI_put]
        have g2 := g1.set (o := .dK (dI (put l s pu))) fd (.inr (.inr rfl))
        have ho2 := (upd_ne (H := upd H p (.tup [])) (o := .dK (dI (put l s pu))) gd).trans ho1
        -- self.spot += entry[1]
        refine ⟨_, rfl, g, t.C_Goer, dx, _, _, rfl, ho2, t.cl_Goer, t.nA_Goer_spot, Goer_get_spot, _, rfl, a, _, _, _, rfl, rfl, SqT.of (g2.fh _ _ ha), atI_nat (j := 1) rfl, _, _, rfl, rfl, _, _, ho2, Goer_few, ?_⟩
        rw [Goer_put_spot]
        have g3 := g2.set (o := .ins t.C_Goer dx (Goer_F tb (.int r) (.int (s + wa)) (.ref d) (.int n))) fg (.inr (.inl rfl))
        -- self.row = entry[2]
        refine ⟨_, rfl, a, _, _, _, rfl, rfl, SqT.of (g3.fh _ _ ha), atI_nat (j := 2) rfl, _, rfl, g, t.C_Goer, dx, _, rfl, upd_same, t.cl_Goer, t.nA_Goer_row, Goer_few, ?_⟩
        rw [Goer_put_row]
        have g4 := g3.set (o := .ins t.C_Goer dx (Goer_F tb (.int ro) (.int (s + wa)) (.ref d) (.int n))) fg (.inr (.inl rfl))
        -- self.steps += 1
        refine ⟨_, rfl, g, t.C_Goer, dx, _, _, rfl, upd_same, t.cl_Goer, t.nA_Goer_steps, Goer_get_steps, _, _, rfl, rfl, _, _, upd_same, Goer_few, ?_⟩
        rw [Goer_put_steps]
        have g5 := g4.set (o := .ins t.C_Goer dx (Goer_F tb (.int ro) (.int (s + wa)) (.ref d) (.int (n + 1)))) fg (.inr (.inl rfl))
        refine q2 _ _ _ rfl _ g5 ⟨⟨dx, upd_same⟩, ?_⟩
        rw [upd_ne gd.symm, upd_ne gd.symm, upd_ne gd.symm, upd_same]
def sp_told_strip : Sp := fun vs H Q _ => ∃ (F : Hp) (d : Addr) (l : List PI), vs = [.ref d] ∧ Same F H ∧ H d = some (.dK (dI l)) ∧ l.length ≤ 100000 ∧
  ∀ (F' H' : Hp) (p : Addr) (xs : List V), Gr mu0 F H F' H' → Ow H F' H' p (.lst xs) → IsAll F' xs (told l) → Q (.ref p) H'
theorem ok_told_strip (t : Tx K mg) : FnOk P w K mg base CX0 1 t.a_told_strip t.fd_told_strip ["signs"] sp_told_strip := by
  refine t.F_told_strip.ok sc_told_strip (fun vs H Q E h => ?_) (fun cdv A outer s H vs Q E hr h => ?_)
  · obtain ⟨F, d, l, rfl, _⟩ := h
    rfl
  · obtain ⟨F, d, l, rfl, sF, hd, hl, q⟩ := h
    refine ⟨_, (pss_one (ps_ret (pe_callB (id := "sorted") call_sortQ (by rfl) t.n_sorted (by decide +kernel) (pa_cons (pe_lock (pe_lc (own := [("place", 1), ("sign", 2)]) rfl sc_told_strip.nd (pi_items (pv 0)) (blkOk_by (N := N_told_strip) (sc := defScope s_told_strip) (by decide +kernel)) (fun _ _ _ _ _ => (pg_tupK (K := K) (n := 2) rfl rfl (pgs_cons (pg_name (i := 1) sc_told_strip.nd rfl (by first | exact Or.inl rfl | exact Or.inr rfl)) (pgs_cons (pg_name (i := 2) sc_told_strip.nd rfl (by first | exact Or.inl rfl | exact Or.inr rfl)) pgs_nil)))) (fun _ _ _ _ _ => (pts_one (pt_cmpR op_ne (pv 2) pe_int (nomark _)))) (fun _ _ _ _ _ => (pe_tup (pa_cons (pv 1) (pa_cons (pv 2) pa_nil)))))) pa_nil)))), ?_⟩
    refine ⟨d, _, hd, trivial, fun od => ?_⟩
    have sL := lock_in (d := d) (o := .frz od (.dK (dI l))) sF
    have g0 : Gr mu0 _ (upd H d (.frz od (.dK (dI l)))) _ (upd H d (.frz od (.dK (dI l)))) := Gr.refl sL
    have dl : (dI l).length = l.length := by unfold dI; rw [List.length_map]
    generalize eH1 : upd H d (.frz od (.dK (dI l))) = H1 at g0
    generalize eF1 : (fun c => if c = d then none else F c) = F1 at g0
    have hd1 : H1 d = some (.frz od (.dK (dI l))) := by rw [← eH1]; exact upd_same
    refine ⟨_, rfl, d, od, dI l, rfl, hd1, fun D nD => lc_it walk_items (fun i G => ∃ F2 xs, Gr mu0 F1 H1 F2 G ∧ Ow H1 F2 G D (.lst xs) ∧ IsAll F2 xs ((l.take i).filter nz)) ⟨F1, [], g0.own nD, Ow.mk1 g0 nD, All2.nil⟩ (fun i G _ ⟨F2, xs, g, _⟩ => g.fr _ _ hd1 (fun z => z)) ?_ ?_⟩
    · rintro i x G G' hi ⟨F2, xs, g, w, al⟩ ⟨T, x1, x2, rfl, nT, rfl, e1, e2⟩
      rw [dl] at hi
      have e1 : (dI l)[i]?.map (fun kv => kV kv.1) = some x1 := e1
      have e2 : (dI l)[i]?.map Prod.snd = some x2 := e2
      rw [dI_get hi] at e1 e2
      cases e1
      cases e2
      have g1 := g.new (o := .tup [.int l[i].a, .int l[i].b]) nT
      have w1 := w.new (u := .tup [.int l[i].a, .int l[i].b]) nT
      refine ⟨T, _, rfl, SqT.of upd_same, rfl, _, _, rfl, _, _, rfl, rfl, rfl, _, rfl, rfl, _, rfl, ?_⟩
      rw [filter_take_succ hi]
      refine ite2 (fun c => ?_) (fun c => ?_)
      · have c' : nz l[i] = true := by
          refine decide_eq_true fun z => ?_
          have c : (!decide (V.int l[i].b = V.int 0)) = true := c
          rw [z, decide_eq_true rfl] at c
          cases c
        rw [if_pos c']
        refine ⟨_, rfl, _, rfl, two_le, fun T2 nT2 => ⟨xs, (w1.new nT2).h, ?_, ?_⟩⟩
        · rw [al.1]
          exact lt_size (Nat.le_trans (List.length_filter_le _ _) (by rw [List.length_take]; omega))
        · have g2 := g1.new (o := .tup [.int l[i].a, .int l[i].b]) nT2
          have w2 := w1.new (u := .tup [.int l[i].a, .int l[i].b]) nT2
          refine ⟨_, _, g2.set w2.f (.inl w2.n), w2.set, (al.up (fun c o h => ?_)).app (All2.one ⟨T2, _, _, rfl, upd_same, rfl, rfl⟩)⟩
          rw [upd_ne (ne_of_none (g1.fh _ _ ((Gr.refl (mu := mu0) g.fh).new nT |>.ff c o h)) nT2)]
          exact (Gr.refl (mu := mu0) g.fh).new nT |>.ff c o h
      · have c' : ¬ nz l[i] = true := fun z => by
          refine c ?_
          have z := of_decide_eq_true z
          show (!decide (V.int l[i].b = V.int 0)) = true
          rw [decide_eq_false (fun e => z (V.int.inj e))]; rfl
        rw [if_neg c', List.append_nil]
        exact ⟨_, xs, g1, w1, al.up ((Gr.refl (mu := mu0) g.fh).new nT).ff⟩
    · rintro G ⟨F2, xs, g, w, al⟩
      rw [dl, List.take_length] at al
      subst eH1
      subst eF1
      obtain ⟨h1, h2, h3⟩ := lock_out sF hd g
      refine ⟨h1, ?_⟩
      have hDd : D ≠ d := by
        rintro rfl
        rw [w.h] at h1; cases h1
      refine sort_pairs (K := K) (l := l.filter nz) (xs := xs) h3.fh (al.up h2) (SqL.of (by rw [upd_ne hDd]; exact w.h)) fun ys p np hys => ?_
      exact q _ _ p ys (h3.own np) (Ow.mk1 h3 np) hys
def sp_Goer_setup (C : Addr) : Sp := fun vs H Q _ => ∃ (F : Hp) (g d : Addr) (tb : V) (r s : Int) (l : List PI) (n : Int), vs = [.ref g] ∧ Same F H ∧ GoAt C H g d tb r s l n ∧ l.length ≤ 100000 ∧
  ∀ (F' H' : Hp) (p u : Addr) (xs : List V), Gr mu0 F H F' H' → Ow H F' H' p (.lst xs) → IsAll F' xs (told l) → Ow H F' H' u (.tup [.int r, .int s, .ref p]) → Q (.ref u) H'
theorem ok_Goer_setup (t : Tx K mg) : FnOk P w K mg base CX0 2 t.a_Goer_setup t.fd_Goer_setup ["self"] (sp_Goer_setup t.C_Goer) := by
  refine t.F_Goer_setup.ok sc_Goer_setup (fun vs H Q E h => ?_) (fun cdv A outer s H vs Q E hr h => ?_)
  · obtain ⟨F, g, d, tb, r, s, l, n, rfl, _⟩ := h
    rfl
  · obtain ⟨F, g, d, tb, r, s, l, n, rfl, sF, hg, hl, q⟩ := h
    refine ⟨_, (pss_one (ps_ret (pe_tup (pa_cons (pe_fld (pv 0) rfl) (pa_cons (pe_fld (pv 0) rfl) (pa_cons (pe_call (ok_told_strip t) (hr.mono (by decide)) (by rfl) t.m_told_strip t.F_told_strip.kp t.b_told_strip .nil pass0 (pa_cons (pe_fld (pv 0) rfl) pa_nil)) pa_nil)))))), ?_⟩
    obtain ⟨⟨dx, ho⟩, hd⟩ := id hg
    refine ⟨_, rfl, g, t.C_Goer, dx, _, _, rfl, ho, t.cl_Goer, t.nA_Goer_row, Goer_get_row, _, rfl, g, t.C_Goer, dx, _, _, rfl, ho, t.cl_Goer, t.nA_Goer_spot, Goer_get_spot, _, rfl, g, t.C_Goer, dx, _, _, rfl, ho, t.cl_Goer, t.nA_Goer_signs, Goer_get_signs, ?_⟩
    refine ⟨F, d, l, rfl, sF, hd, hl, fun F' H' p xs gr w al => ⟨three_le, fun u nu => ?_⟩⟩
    exact q F' _ p u xs (gr.own nu) (w.own nu) al (Ow.mk1 gr nu)
/-! ### what a machine does -/
structure Cfg where
  r : Int
  s : Int
  l : List PI
def entOf (M : Mach) (c : Cfg) : Ent := ((M[c.r.toNat]?.getD [])[((look c.l c.s).getD 0).toNat]?).getD .emp
def stepC (M : Mach) (c : Cfg) : Option Cfg := match entOf M c with
  | .emp => none
  | .go p w r => some ⟨r, c.s + w, put c.l c.s p⟩
structure CfOk (R S : Nat) (c : Cfg) : Prop where
  r0 : 0 ≤ c.r
  r1 : c.r < R
  nd : Nd c.l
  sg : ∀ q ∈ c.l, 0 ≤ q.b ∧ q.b < S
theorem CfOk.look {R S : Nat} {c : Cfg} (h : CfOk R S c) (s1 : 1 ≤ S) (x : Int) : 0 ≤ (look c.l x).getD 0 ∧ (look c.l x).getD 0 < S := by
  cases e : E.look c.l x with
  | none => simp only [Option.getD_none]; omega
  | some v => exact h.sg _ (mem_look e)
theorem CfOk.ent {M : Mach} {R S : Nat} {c : Cfg} (hM : MOk M R S) (h : CfOk R S c) : ∃ row, M[c.r.toNat]? = some row ∧ 0 ≤ (E.look c.l c.s).getD 0 ∧ row[((E.look c.l c.s).getD 0).toNat]? = some (entOf M c) ∧ EOk R S (entOf M c) := by
  have hr : c.r.toNat < M.length := by have := h.r0; have := h.r1; have := hM.len; omega
  have h1 : M[c.r.toNat]? = some M[c.r.toNat] := List.getElem?_eq_getElem hr
  have m1 := List.mem_of_getElem? h1
  obtain ⟨s0, s1⟩ := h.look (by have := hM.s2; omega) c.s
  have hs : ((E.look c.l c.s).getD 0).toNat < M[c.r.toNat].length := by rw [hM.row _ m1]; omega
  have h2 : M[c.r.toNat][((E.look c.l c.s).getD 0).toNat]? = some _ := List.getElem?_eq_getElem hs
  have e : entOf M c = M[c.r.toNat][((E.look c.l c.s).getD 0).toNat] := by
    unfold entOf
    rw [h1, Option.getD_some, h2, Option.getD_some]
  exact ⟨_, h1, s0, by rw [e]; exact h2, by rw [e]; exact hM.ent _ m1 _ (List.mem_of_getElem? h2)⟩
theorem CfOk.step {M : Mach} {R S : Nat} {c c' : Cfg} (hM : MOk M R S) (h : CfOk R S c) (e : stepC M c = some c') : CfOk R S c' := by
  obtain ⟨row, _, _, _, eo⟩ := h.ent hM
  unfold stepC at e
  split at e
  · cases e
  · rename_i p w r he
    cases e
    obtain ⟨o1, _, o3, o4⟩ := eo.ok _ _ _ he
    refine ⟨o3, o4, nd_put h.nd _ _, fun q m => ?_⟩
    rcases mem_put m with m | rfl
    · exact h.sg q m
    · exact o1
/-- a setup with its signs in a dict -/
def cfAt (H : Hp) (v : V) (c : Cfg) : Prop := ∃ t d, v = .ref t ∧ H t = some (.tup [.int c.r, .int c.s, .ref d]) ∧ H d = some (.dK (dI c.l))
theorem cfAt.up {H H' : Hp} {v : V} {c : Cfg} (h : cfAt H v c) (s : Same H H') : cfAt H' v c := by
  obtain ⟨t, d, e, h1, h2⟩ := h
  exact ⟨t, d, e, s _ _ h1, s _ _ h2⟩
theorem stepC_none {M : Mach} {c : Cfg} : stepC M c = none ↔ entOf M c = .emp := by
  unfold stepC
  cases entOf M c with
  | emp => exact ⟨fun _ => rfl, fun _ => rfl⟩
  | go p w r => exact ⟨(fun h => nomatch h), (fun h => nomatch h)⟩
theorem stepC_go {M : Mach} {c : Cfg} {p w r : Int} (h : entOf M c = .go p w r) : stepC M c = some ⟨r, c.s + w, put c.l c.s p⟩ := by
  unfold stepC
  rw [h]
theorem mach_ent {F : Hp} {m : V} {M : Mach} {i j : Nat} {row : List Ent} {e : Ent} (hm : Is F m M) (h1 : M[i]? = some row) (h2 : row[j]? = some e) : ∃ am rs ra es v, m = .ref am ∧ F am = some (.lst rs) ∧ rs[i]? = some (.ref ra) ∧ F ra = some (.lst es) ∧ es[j]? = some v ∧ Is F v e := by
  obtain ⟨am, rs, e1, ham, hrs⟩ := hm
  obtain ⟨x, hx, ra, es, rfl, hra, hes⟩ := hrs.get h1
  obtain ⟨v, hv, hve⟩ := hes.get h2
  exact ⟨am, rs, ra, es, v, e1, ham, hx, hra, hv, hve⟩
theorem getD_int (o : Option Int) (x : Int) : (o.map V.int).getD (.int x) = .int (o.getD x) := by cases o <;> rfl
theorem size_dI {l : List PI} {n : Nat} (h : l.length ≤ n) (k : n ≤ 1000000) : (dI l).length < sizeLine := by
  unfold dI; rw [List.length_map]; exact lt_size (by omega)
/-! ### runs from the empty strip -/
def c0 : Cfg := ⟨0, 0, []⟩
def stepsC (M : Mach) : Nat → Option Cfg
  | 0 => some c0
  | k + 1 => (stepsC M k).bind (stepC M)
theorem stepsC_next {M : Mach} {k : Nat} {c : Cfg} (h : stepsC M k = some c) : stepsC M (k + 1) = stepC M c := by
  show (stepsC M k).bind (stepC M) = _
  rw [h]; rfl
theorem stepsC_back {M : Mach} {k : Nat} {c : Cfg} (h : stepsC M (k + 1) = some c) : ∃ b, stepsC M k = some b ∧ stepC M b = some c := Option.bind_eq_some_iff.mp h
theorem stepsC_end {M : Mach} {k : Nat} {c : Cfg} (h : stepsC M k = some c) (e : stepC M c = none) : ∀ j, stepsC M (k + 1 + j) = none
  | 0 => by rw [Nat.add_zero, stepsC_next h]; exact e
  | j + 1 => by
    show (stepsC M (k + 1 + j)).bind (stepC M) = _
    rw [stepsC_end h e j]; rfl
theorem c0_ok {R S : Nat} (r1 : 1 ≤ R) : CfOk R S c0 := ⟨Int.le_refl _, by show (0 : Int) < R; omega, nd_nil, fun z m => nomatch m⟩
theorem stepC_len {M : Mach} {c c' : Cfg} (e : stepC M c = some c') : c'.l.length ≤ c.l.length + 1 := by
  unfold stepC at e
  split at e
  · cases e
  · cases e
    exact put_len _ _ _
theorem stepsC_ok {M : Mach} {R S : Nat} (hM : MOk M R S) : ∀ {k : Nat} {c : Cfg}, stepsC M k = some c → CfOk R S c ∧ c.l.length ≤ k
  | 0, c, h => by
    cases h
    exact ⟨c0_ok hM.r1, Nat.le_refl _⟩
  | k + 1, c, h => by
    obtain ⟨b, hb, e⟩ := stepsC_back h
    obtain ⟨i1, i2⟩ := stepsC_ok hM hb
    have := stepC_len e
    exact ⟨i1.step hM e, by omega⟩
/-- where a run of at most n steps stands: behind k of them, at c -/
structure Gone (M : Mach) (n k : Nat) (c : Cfg) : Prop where
  le : k ≤ n
  stp : stepsC M k = some c
  fin : stepC M c = none ∨ k = n
theorem Gone.lt {M : Mach} {n k k' : Nat} {c c' : Cfg} (a : Gone M n k c) (b : Gone M n k' c') : ¬ k < k' := fun l => by
  rcases a.fin with e | e
  · have h := stepsC_end a.stp e (k' - (k + 1))
    rw [show k + 1 + (k' - (k + 1)) = k' by omega, b.stp] at h
    cases h
  · have := b.le; omega
theorem Gone.uniq {M : Mach} {n k k' : Nat} {c c' : Cfg} (a : Gone M n k c) (b : Gone M n k' c') : k = k' ∧ c = c' := by
  have e : k = k' := by have := a.lt b; have := b.lt a; omega
  subst e
  have h := a.stp
  rw [b.stp] at h
  cases h
  exact ⟨rfl, rfl⟩
/-! ### a strip without noughts -/
def pop (l : List PI) (x : Int) : List PI := l.filter fun p => decide (p.a ≠ x)
theorem look_pop (x y : Int) : ∀ l : List PI, look (pop l x) y = if y = x then none else look l y
  | [] => by show look [] y = _; rw [look_nil]; split <;> rfl
  | p :: l => by
    have ih := look_pop x y l
    unfold pop at ih ⊢
    rw [List.filter_cons, look_cons]
    by_cases e : p.a = x
    · rw [if_neg (by simp [e]), ih]
      by_cases f : y = x
      · rw [if_pos f, if_pos f]
      · rw [if_neg f, if_neg f, if_neg (by rw [e]; exact fun z => f z.symm)]
    · rw [if_pos (by simp [e]), look_cons, ih]
      by_cases f : p.a = y
      · rw [if_pos f, if_pos f, if_neg (by rw [← f]; exact e)]
      · rw [if_neg f, if_neg f]
theorem nd_pop {l : List PI} (h : Nd l) (x : Int) : Nd (pop l x) := List.Sublist.nodup (List.Sublist.map _ List.filter_sublist) h
theorem nd_nodup {l : List PI} (h : Nd l) : l.Nodup := (List.pairwise_map.mp h).imp fun z e => z (by rw [e])
structure ZRel (l l' : List PI) : Prop where
  n : Nd l
  n' : Nd l'
  z : ∀ q ∈ l', q.b ≠ 0
  lk : ∀ x, (look l x).getD 0 = (look l' x).getD 0
theorem ZRel.nil : ZRel [] [] := ⟨nd_nil, nd_nil, fun q m => (nomatch m), fun x => rfl⟩
theorem ZRel.put {l l' : List PI} (h : ZRel l l') (x : Int) {v : Int} (e : v ≠ 0) : ZRel (put l x v) (put l' x v) := by
  refine ⟨nd_put h.n _ _, nd_put h.n' _ _, fun q m => ?_, fun y => ?_⟩
  · rcases mem_put m with m | rfl
    · exact h.z q m
    · exact e
  · rw [look_put, look_put]
    split
    · rfl
    · exact h.lk y
theorem ZRel.pop {l l' : List PI} (h : ZRel l l') (x : Int) : ZRel (E.put l x 0) (pop (E.put l' x 0) x) := by
  refine ⟨nd_put h.n _ _, nd_pop (nd_put h.n' _ _) _, fun q m => ?_, fun y => ?_⟩
  · obtain ⟨m, e⟩ := List.mem_filter.mp m
    have e : q.a ≠ x := of_decide_eq_true e
    rcases mem_put m with m | rfl
    · exact h.z q m
    · exact absurd rfl e
  · rw [look_put, look_pop, look_put]
    split
    · rfl
    · exact h.lk y
theorem ZRel.perm {l l' : List PI} (h : ZRel l l') : (l.filter nz).Perm l' := by
  refine (List.perm_ext_iff_of_nodup (List.Sublist.nodup List.filter_sublist (nd_nodup h.n)) (nd_nodup h.n')).mpr fun q => ?_
  have k := h.lk q.a
  rw [List.mem_filter]
  constructor
  · rintro ⟨m, e⟩
    have e : q.b ≠ 0 := of_decide_eq_true e
    rw [look_mem h.n m, Option.getD_some] at k
    cases f : look l' q.a with
    | none => rw [f] at k; exact absurd k e
    | some z =>
      rw [f, Option.getD_some] at k
      have m' := mem_look f
      rw [← k] at m'
      exact m'
  · intro m
    have e := h.z q m
    rw [look_mem h.n' m, Option.getD_some] at k
    cases f : look l q.a with
    | none => rw [f] at k; exact absurd k.symm e
    | some z =>
      rw [f, Option.getD_some] at k
      have m' := mem_look f
      rw [k] at m'
      exact ⟨m', decide_eq_true e⟩
theorem ZRel.told {l l' : List PI} (h : ZRel l l') : told l = srt l' :=
  srt_uniq (srt_srt _) (srt_srt _) (((srt_perm _).trans h.perm).trans (srt_perm _).symm)
theorem ZRel.len {l l' : List PI} (h : ZRel l l') : l'.length ≤ l.length := by
  rw [← h.perm.length_eq]; exact List.length_filter_le _ _
/-- a setup with its signs other than 0 in a dict -/
def zAt (H : Hp) (v : V) (c : Cfg) : Prop := ∃ t d l', v = .ref t ∧ H t = some (.tup [.int c.r, .int c.s, .ref d]) ∧ H d = some (.dK (dI l')) ∧ ZRel c.l l'
theorem zAt.up {H H' : Hp} {v : V} {c : Cfg} (h : zAt H v c) (s : Same H H') : zAt H' v c := by
  obtain ⟨t, d, l', e, h1, h2, h3⟩ := h
  exact ⟨t, d, l', e, s _ _ h1, s _ _ h2, h3⟩
/-- the setups behind 0, 1, .. k steps -/
def ZAll (H : Hp) (M : Mach) (xs : List V) (k : Nat) : Prop := xs.length = k + 1 ∧ ∀ i v, xs[i]? = some v → ∃ c, stepsC M i = some c ∧ zAt H v c
theorem ZAll.up {H H' : Hp} {M : Mach} {xs : List V} {k : Nat} (h : ZAll H M xs k) (s : Same H H') : ZAll H' M xs k :=
  ⟨h.1, fun i v e => by obtain ⟨c, a, b⟩ := h.2 i v e; exact ⟨c, a, b.up s⟩⟩
theorem ZAll.one {H : Hp} {M : Mach} {v : V} (h : zAt H v c0) : ZAll H M [v] 0 := ⟨rfl, fun i u e => by
  cases i with
  | zero => cases e; exact ⟨c0, rfl, h⟩
  | succ n => cases e⟩
theorem ZAll.app {H : Hp} {M : Mach} {xs : List V} {k : Nat} {v : V} {c : Cfg} (h : ZAll H M xs k) (e : stepsC M (k + 1) = some c) (z : zAt H v c) : ZAll H M (xs ++ [v]) (k + 1) := by
  refine ⟨by rw [List.length_append, h.1]; rfl, fun i u hu => ?_⟩
  by_cases l : i < xs.length
  · rw [List.getElem?_append_left l] at hu
    exact h.2 i u hu
  · rw [List.getElem?_append_right (by omega)] at hu
    cases j : i - xs.length with
    | zero =>
      rw [j] at hu
      cases hu
      have := h.1
      rw [show i = k + 1 by omega]
      exact ⟨c, e, z⟩
    | succ n => rw [j] at hu; cases hu
theorem ZAll.get {H : Hp} {M : Mach} {xs : List V} {k i : Nat} {c : Cfg} (h : ZAll H M xs k) (l : i ≤ k) (e : stepsC M i = some c) : ∃ v, xs[i]? = some v ∧ zAt H v c := by
  have l' : i < xs.length := by rw [h.1]; omega
  obtain ⟨c', e', z⟩ := h.2 i _ (List.getElem?_eq_getElem l')
  rw [e] at e'
  cases e'
  exact ⟨_, List.getElem?_eq_getElem l', z⟩
/-- what is due of a run -/
abbrev Res := T3 TStr Int Setup
def tEnds : TStr := ⟨"ends", by decide +kernel⟩
def tOn : TStr := ⟨"on", by decide +kernel⟩
def dueOf (M : Mach) (n k : Nat) (c : Cfg) : Res := if entOf M c = Ent.emp then ⟨tEnds, k, c.r, c.s, told c.l⟩ else ⟨tOn, n, c.r, c.s, told c.l⟩
def sp_gone (C : Addr) : Sp := fun vs H Q _ => ∃ (F : Hp) (m : V) (M : Mach) (R S n : Nat), vs = [m, .int n] ∧ Same F H ∧ Is F m M ∧ MOk M R S ∧ n ≤ 5000 ∧
  ∀ (F' H' : Hp) (u g d : Addr) (k : Nat) (c : Cfg), Gr mu0 F H F' H' → F' u = some (.tup [.ref g, .bl (decide (entOf M c = Ent.emp))]) → H g = none → H d = none → F' g = none → F' d = none → GoAt C H' g d m c.r c.s c.l k → Gone M n k c → Q (.ref u) H'
theorem ok_gone (t : Tx K mg) : FnOk P w K mg base CX0 3 t.a_gone t.fd_gone ["machine", "most"] (sp_gone t.C_Goer) := by
  refine t.F_gone.ok sc_gone (fun vs H Q E h => ?_) (fun cdv A outer s H vs Q E hr h => ?_)
  · obtain ⟨F, m, M, R, S, n, rfl, _⟩ := h
    rfl
  · obtain ⟨F, m, M, R, S, n, rfl, sF, hm, hM, hn, q⟩ := h
    refine ⟨_, (pss_cons (ps_set (i := 2) sc_gone.nd rfl (by first | exact Or.inl rfl | exact Or.inr rfl) (pe_make t.M_Goer (ok_Goer_init t) (hr.mono (by decide)) (by rfl) t.m_Goer t.b_Goer_init .nil pass0 (pa_cons (pv 0) (pa_cons (pe_tup (pa_cons pe_int (pa_cons pe_int (pa_cons (pe_lst pa_nil) pa_nil)))) pa_nil))))
      (pss_cons (ps_set (i := 3) sc_gone.nd rfl (by first | exact Or.inl rfl | exact Or.inr rfl) pe_bl)
      (pss_cons (ps_while PassesOwn.never (PW.pt (pw_and (pt_val (pv 3)) (pw_and1 (pt_cmpR op_lt (pe_fld (pv 2) rfl) (pv 1) (nomark _))))) (pss_one (ps_set (i := 3) sc_gone.nd rfl (by first | exact Or.inl rfl | exact Or.inr rfl) (pe_meth0 (pv 2) t.cl_Goer t.M_Goer_step (ok_Goer_step t) (hr.mono (by decide)) t.b_Goer_step .nil pass0))))
      (pss_one (ps_ret (pe_tup (pa_cons (pv 2) (pa_cons (pe_cmpR (op_eqD hr.units) (pe_meth0 (pv 2) t.cl_Goer t.M_Goer_entry (ok_Goer_entry t) (hr.mono (by decide)) t.b_Goer_entry .nil pass0) (pe_tup pa_nil) (nomark _)) pa_nil)))))))), ?_⟩
    have g0 : Gr mu0 F H F H := Gr.refl sF
    -- walk = Goer(machine, (0, 0, []))
    refine ⟨_, rfl, nil_le, fun l nl => ⟨three_le, fun u nu => ?_⟩⟩
    have g1 := g0.new (o := .lst []) nl
    have g2 := g1.new (o := .tup [.int 0, .int 0, .ref l]) nu
    have hx : Is (upd (upd F l (.lst [])) u (.tup [.int 0, .int 0, .ref l])) (.ref u) (⟨0, 0, []⟩ : Setup) := ⟨u, _, _, _, rfl, upd_same, rfl, rfl, l, [], rfl, ln (g1.fh.free nu) upd_same, All2.nil⟩
    generalize upd (upd F l (.lst [])) u (.tup [.int 0, .int 0, .ref l]) = F2 at g2 hx
    generalize upd (upd H l (.lst [])) u (.tup [.int 0, .int 0, .ref l]) = H2 at g2
    refine fun y dy ny ndy ney => ?_
    have g3 := g2.own (o := .own y) ndy
    have ny2 : (upd H2 dy (.own y)) y = none := by rw [upd_ne ney.symm]; exact ny
    have g4 := g3.own (o := .ins t.C_Goer dy []) ny2
    have hy : H y = none := g2.th _ ny
    have fy : F2 y = none := g2.fh.free ny
    refine ⟨F2, y, dy, m, .ref u, _, rfl, upd_same, fy, g4.fh, hx, fun d H5 nd5 g5 ga => ⟨rfl, ?_⟩⟩
    have g6 := g4.thn g5 fun c z => .inr (by rw [show c = y from z]; exact hy)
    have hd : H d = none := g4.th _ nd5
    have fd : F2 d = none := g4.fh.free nd5
    have hm2 := hm.up g2.ff
    -- going = True; while going and walk.steps < most
    refine ⟨fun k σ G => ∃ (F1 : Hp) (j : Nat) (c : Cfg) (b : Bool), k = 2 * (n - j) + b.toNat ∧ σ = [some m, some (.int n), some (.ref y), some (.bl b)] ∧ Gr mu0 F H F1 G ∧ F1 y = none ∧ F1 d = none ∧ Same F2 F1 ∧ GoAt t.C_Goer G y d m c.r c.s c.l j ∧ stepsC M j = some c ∧ j ≤ n ∧ (b = false → stepC M c = none),
      ⟨_, F2, 0, c0, true, rfl, rfl, g6, fy, fd, Same.refl _, ga, rfl, Nat.zero_le _, (fun z => nomatch z)⟩, ?_⟩
    rintro k σ G ⟨F1, j, c, b, rfl, rfl, g, fy, fd, s2, ga, st, lj, hb⟩
    obtain ⟨ok, ll⟩ := stepsC_ok hM st
    have hm1 := hm2.up s2
    obtain ⟨row, er, s0, ee, eo⟩ := ok.ent hM
    have gy := g.th
    have fin : ∀ G1, Gr mu0 F H F1 G1 → GoAt t.C_Goer G1 y d m c.r c.s c.l j → (stepC M c = none ∨ j = n) → ∀ p, G1 p = none → ∀ u, (upd G1 p (.tup [])) u = none → Q (.ref u) (upd (upd G1 p (.tup [])) u (.tup [.ref y, .bl (decide (entOf M c = Ent.emp))])) := by
      intro G1 g1 ga1 hend p np u nu
      have g2 := g1.own (o := .tup []) np
      have g3 := g2.new (o := .tup [.ref y, .bl (decide (entOf M c = Ent.emp))]) nu
      obtain ⟨⟨dx, ho⟩, hdc⟩ := id ga1
      have yu : y ≠ u := fun z => by rw [← z, upd_ne (ne_of_none ho np), ho] at nu; cases nu
      have du : d ≠ u := fun z => by rw [← z, upd_ne (ne_of_none hdc np), hdc] at nu; cases nu
      refine q _ _ u y d j c g3 upd_same hy hd (by rw [upd_ne yu]; exact fy) (by rw [upd_ne du]; exact fd) ⟨⟨dx, ln nu (ln np ho)⟩, ln nu (ln np hdc)⟩ ⟨lj, st, hend⟩
    obtain ⟨⟨dx, ho⟩, hdc⟩ := id ga
    refine ⟨_, rfl, _, rfl, ?_⟩
    refine ite2 (fun cb => ?_) (fun cb => ?_)
    · refine ⟨_, rfl, y, t.C_Goer, dx, _, _, rfl, ho, t.cl_Goer, t.nA_Goer_steps, Goer_get_steps, _, rfl, _, _, rfl, rfl, _, rfl, ?_⟩
      refine ite2 (fun cl => ?_) (fun cl => ?_)
      · have cl : (j : Int) < n := of_decide_eq_true cl
        refine ⟨_, fun _ _ h => h, ?_⟩
        refine ⟨_, rfl, y, dx, _, rfl, ho, Goer_no (by decide +kernel) (by decide +kernel) (by decide +kernel) (by decide +kernel) (by decide +kernel), F1, y, d, m, M, c.r, c.s, c.l, j, row, entOf M c, rfl, g.fh, fy, fd, hm1, ga, ok.r0, er, s0, ee, by omega, fun he H6 g6 => ?_, fun p w r' he H6 g6 gb => ?_⟩
        · exact ⟨2 * (n - j), by rw [cb]; show _ < 2 * (n - j) + 1; omega, F1, j, c, false, rfl, rfl, g.trans g6, fy, fd, s2, ga.gr g6 (fun z => z) (fun z => z), st, lj, fun _ => stepC_none.mpr he⟩
        · have st1 := stepC_go he
          exact ⟨2 * (n - (j + 1)) + 1, by rw [cb]; show _ < 2 * (n - j) + 1; omega, F1, j + 1, ⟨r', c.s + w, put c.l c.s p⟩, true, rfl, rfl, g.thn g6 (fun c z => .inr (by rcases z with rfl | rfl <;> assumption)), fy, fd, s2, gb, (stepsC_next st).trans st1, by omega, fun z => nomatch z⟩
      · have cl : ¬ (j : Int) < n := fun z => cl (decide_eq_true z)
        refine ⟨_, rfl, _, rfl, y, dx, _, rfl, ho, Goer_no (by decide +kernel) (by decide +kernel) (by decide +kernel) (by decide +kernel) (by decide +kernel), F1, y, d, m, M, c.r, c.s, c.l, j, row, entOf M c, rfl, g.fh, hm1, ga, ok.r0, er, s0, ee, fun v hv => ⟨nil_le, fun p np => ?_⟩⟩
        refine eq_dat (a := entOf M c) (b := Ent.emp) (hv.up (g.own np).fh) ⟨p, rfl, upd_same⟩ ⟨two_le, fun u nu => ?_⟩
        exact fin G g ga (.inr (by omega)) p np u nu
    · refine ifF rfl ?_
      have cb : b = false := by cases b with | false => rfl | true => exact absurd rfl cb
      refine ⟨_, rfl, _, rfl, y, dx, _, rfl, ho, Goer_no (by decide +kernel) (by decide +kernel) (by decide +kernel) (by decide +kernel) (by decide +kernel), F1, y, d, m, M, c.r, c.s, c.l, j, row, entOf M c, rfl, g.fh, hm1, ga, ok.r0, er, s0, ee, fun v hv => ⟨nil_le, fun p np => ?_⟩⟩
      refine eq_dat (a := entOf M c) (b := Ent.emp) (hv.up (g.own np).fh) ⟨p, rfl, upd_same⟩ ⟨two_le, fun u nu => ?_⟩
      exact fin G g ga (.inl (hb cb)) p np u nu
def sp_run : Sp := fun vs H Q _ => ∃ (F : Hp) (m : V) (M : Mach) (R S n : Nat), vs = [m, .int n] ∧ Same F H ∧ Is F m M ∧ MOk M R S ∧ n ≤ 5000 ∧
  ∀ (F' H' : Hp) (l u v : Addr) (xs : List V) (k : Nat) (c : Cfg), Gr mu0 F H F' H' → Gone M n k c → Ow H F' H' l (.lst xs) → IsAll F' xs (told c.l) → Ow H F' H' u (.tup [.int c.r, .int c.s, .ref l]) → Ow H F' H' v (.tup [.str (dueOf M n k c).a.x, .int (dueOf M n k c).b, .ref u]) → Q (.ref v) H'
theorem ok_run (t : Tx K mg) : FnOk P w K mg base CX0 4 t.a_run t.fd_run ["machine", "most"] sp_run := by
  refine t.F_run.ok sc_run (fun vs H Q E h => ?_) (fun cdv A outer s H vs Q E hr h => ?_)
  · obtain ⟨F, m, M, R, S, n, rfl, _⟩ := h
    rfl
  · obtain ⟨F, m, M, R, S, n, rfl, sF, hm, hM, hn, q⟩ := h
    refine ⟨_, (pss_cons (ps_expr (pe_call (ok_must_machine t) (hr.mono (by decide)) (by rfl) t.m_must_machine t.F_must_machine.kp t.b_must_machine .nil pass0 (pa_cons (pv 0) pa_nil)))
      (pss_cons (ps_asg (pe_call (ok_gone t) (hr.mono (by decide)) (by rfl) t.m_gone t.F_gone.kp t.b_gone .nil pass0 (pa_cons (pv 0) (pa_cons (pv 1) pa_nil))) (pg_tup rfl (pgs_cons (pg_name (i := 2) sc_run.nd rfl (by first | exact Or.inl rfl | exact Or.inr rfl)) (pgs_cons (pg_name (i := 3) sc_run.nd rfl (by first | exact Or.inl rfl | exact Or.inr rfl)) pgs_nil))))
      (pss_cons (ps_if (pt_val (pv 3)) (pss_one (ps_ret (pe_tup (pa_cons pe_str (pa_cons (pe_fld (pv 2) rfl) (pa_cons (pe_meth0 (pv 2) t.cl_Goer t.M_Goer_setup (ok_Goer_setup t) (hr.mono (by decide)) t.b_Goer_setup .nil pass0) pa_nil)))))) pss_nil)
      (pss_one (ps_ret (pe_tup (pa_cons pe_str (pa_cons (pv 1) (pa_cons (pe_meth0 (pv 2) t.cl_Goer t.M_Goer_setup (ok_Goer_setup t) (hr.mono (by decide)) t.b_Goer_setup .nil pass0) pa_nil))))))))), ?_⟩
    refine ⟨_, rfl, F, m, M, R, S, rfl, sF, hm, hM, fun H1 g1 => ?_⟩
    refine ⟨_, rfl, _, rfl, F, m, M, R, S, n, rfl, g1.fh, hm, hM, hn, fun F2 H2 w g d k c g2 hw ng nd fg fd ga go => ?_⟩
    have g12 := g1.trans g2
    refine ⟨w, _, rfl, SqT.of (g2.fh _ _ hw), rfl, _, _, rfl, _, _, rfl, rfl, ?_⟩
    obtain ⟨ok, ll⟩ := stepsC_ok hM go.stp
    have gle := go.le
    obtain ⟨⟨dx, ho⟩, hdc⟩ := id ga
    have key : ∀ (x : Str) (i : Int), (dueOf M n k c).a.x = x → (dueOf M n k c).b = i → ∀ (F' H' : Hp) (p u : Addr) (xs : List V), Gr mu0 F2 H2 F' H' → Ow H2 F' H' p (.lst xs) → IsAll F' xs (told c.l) → Ow H2 F' H' u (.tup [.int c.r, .int c.s, .ref p]) → ∀ v, H' v = none → Q (.ref v) (upd H' v (.tup [.str x, .int i, .ref u])) := by
      intro x i ex ei F' H' p u xs g3 w1 al w2 v nv
      have g13 := g12.trans g3
      refine q F' _ p u v xs k c (g13.own nv) go ⟨g12.th _ w1.n, w1.f, ln nv w1.h⟩ al ⟨g12.th _ w2.n, w2.f, ln nv w2.h⟩ ?_
      rw [ex, ei]
      exact Ow.mk1 g13 nv
    by_cases e : entOf M c = Ent.emp
    · refine ⟨_, rfl, _, rfl, ifT (decide_eq_true e) ?_⟩
      refine ⟨_, rfl, g, t.C_Goer, dx, _, _, rfl, ho, t.cl_Goer, t.nA_Goer_steps, Goer_get_steps, _, rfl, g, dx, _, rfl, ho, Goer_no (by decide +kernel) (by decide +kernel) (by decide +kernel) (by decide +kernel) (by decide +kernel), F2, g, d, m, c.r, c.s, c.l, k, rfl, g2.fh, ga, by omega, fun F' H' p u xs g3 w1 al w2 => ⟨three_le, fun v nv => ?_⟩⟩
      exact key tEnds.x k (by unfold dueOf; rw [if_pos e]) (by unfold dueOf; rw [if_pos e]) F' H' p u xs g3 w1 al w2 v nv
    · refine ⟨_, rfl, _, rfl, ifF (decide_eq_false e) ?_⟩
      refine ⟨_, rfl, _, rfl, g, dx, _, rfl, ho, Goer_no (by decide +kernel) (by decide +kernel) (by decide +kernel) (by decide +kernel) (by decide +kernel), F2, g, d, m, c.r, c.s, c.l, k, rfl, g2.fh, ga, by omega, fun F' H' p u xs g3 w1 al w2 => ⟨three_le, fun v nv => ?_⟩⟩
      exact key tOn.x n (by unfold dueOf; rw [if_neg e]) (by unfold dueOf; rw [if_neg e]) F' H' p u xs g3 w1 al w2 v nv
theorem upd_comm {H : Hp} {a b : Addr} {u v : HO} (n : a ≠ b) : upd (upd H a u) b v = upd (upd H b v) a u := by
  funext c
  by_cases e1 : c = a
  · subst e1
    rw [upd_ne n, upd_same, upd_same]
  · by_cases e2 : c = b
    · subst e2
      rw [upd_same, upd_ne e1, upd_same]
    · rw [upd_ne e2, upd_ne e1, upd_ne e1, upd_ne e2]
theorem take_none {l : List PI} (h : Nd l) {i : Nat} (hi : i < l.length) : look ((l.take i).filter nz) l[i].a = none := by
  refine look_none.mpr fun m => ?_
  obtain ⟨q, hq, e⟩ := List.mem_map.mp m
  have hq := (List.mem_filter.mp hq).1
  obtain ⟨j, hj⟩ := List.getElem?_of_mem hq
  rw [List.getElem?_take] at hj
  split at hj
  · rename_i lj
    have h1 : (l.map fun p : PI => p.a)[j]? = some l[i].a := by rw [List.getElem?_map, hj, ← e]; rfl
    have h2 : (l.map fun p : PI => p.a)[i]? = some l[i].a := by rw [List.getElem?_map, List.getElem?_eq_getElem hi]; rfl
    have := nd_ix h h1 h2
    omega
  · cases hj
def sp_plain : Sp := fun vs H Q _ => ∃ (F : Hp) (d : Addr) (l : List PI), vs = [.ref d] ∧ Same F H ∧ H d = some (.dK (dI l)) ∧ Nd l ∧ l.length ≤ 100000 ∧
  ∀ (F' H' : Hp) (e : Addr), Gr mu0 F H F' H' → Ow H F' H' e (.dK (dI (l.filter nz))) → Q (.ref e) H'
theorem ok_plain (t : Tx K mg) : FnOk P w K mg base CX0 1 t.a_plain t.fd_plain ["signs"] sp_plain := by
  refine t.F_plain.ok sc_plain (fun vs H Q E h => ?_) (fun cdv A outer s H vs Q E hr h => ?_)
  · obtain ⟨F, d, l, rfl, _⟩ := h
    rfl
  · obtain ⟨F, d, l, rfl, sF, hd, nd, hl, q⟩ := h
    refine ⟨_, (pss_cons (ps_set (i := 1) sc_plain.nd rfl (by first | exact Or.inl rfl | exact Or.inr rfl) pe_dnewK)
      (pss_cons (ps_lock (ps_for PassesOwn.never rfl (pi_keys (pv 0)) (pg_name (i := 2) sc_plain.nd rfl (by first | exact Or.inl rfl | exact Or.inr rfl)) (pss_one (ps_if (pt_cmpR op_ne (pe_dget (hu_of hr) (pv 0) (pv 2) (fun _ _ => rfl)) pe_int (nomark _)) (pss_one (ps_dput (hu_of hr) (pv 1) (pv 2) (pe_dget (hu_of hr) (pv 0) (pv 2) (fun _ _ => rfl)) rfl)) pss_nil))))
      (pss_one (ps_ret (pv 1))))), ?_⟩
    refine fun e ne => ?_
    have de : d ≠ e := ne_of_none hd ne
    have hd1 := ln (u := .dK []) ne hd
    refine ⟨d, _, hd1, trivial, fun od => ?_⟩
    rw [upd_comm de.symm]
    have sL := lock_in (d := d) (o := .frz od (.dK (dI l))) sF
    have neB : (upd H d (.frz od (.dK (dI l)))) e = none := by rw [upd_ne de.symm]; exact ne
    have hdB : (upd H d (.frz od (.dK (dI l)))) d = some (.frz od (.dK (dI l))) := upd_same
    have dl : (dI l).length = l.length := by unfold dI; rw [List.length_map]
    have g0 : Gr mu0 _ (upd H d (.frz od (.dK (dI l)))) _ (upd H d (.frz od (.dK (dI l)))) := Gr.refl sL
    have g1 := g0.own (o := .dK (dI [])) neB
    have w1 : Ow _ _ (upd (upd H d (.frz od (.dK (dI l)))) e (.dK (dI []))) e (.dK (dI [])) := Ow.mk1 g0 neB
    refine ⟨_, rfl, d, od, rfl, .inl ⟨_, ln neB hdB, for_it walk_keys (fun i σ G => ∃ v2 : Option V, σ = [some (.ref d), some (.ref e), v2] ∧ Gr mu0 (fun c => if c = d then none else F c) (upd H d (.frz od (.dK (dI l)))) (fun c => if c = d then none else F c) G ∧ Ow (upd H d (.frz od (.dK (dI l)))) (fun c => if c = d then none else F c) G e (.dK (dI ((l.take i).filter nz)))) ⟨none, rfl, g1, w1⟩ (fun i σ G _ ⟨_, _, g, _⟩ => g.fr _ _ hdB fun z => z) ?_ ?_⟩⟩
    · rintro i x σ G G' hi ⟨v2, rfl, g, w⟩ ⟨rfl, k, v, hk, rfl⟩
      rw [dl] at hi
      rw [dI_get hi] at hk
      cases hk
      have hdG := g.fr _ _ hdB fun z => z
      have dg : DGet G' d (kV (Sum.inl l[i].a)) (some (.int l[i].b)) := .inl ⟨_, Sum.inl l[i].a, .inr ⟨od, hdG⟩, rfl, by rw [dI_val, look_mem nd (List.getElem_mem hi)]; rfl⟩
      refine ⟨_, rfl, _, rfl, d, _, rfl, dg, rfl, _, rfl, ?_⟩
      rw [filter_take_succ hi]
      refine ite2 (fun c => ?_) (fun c => ?_)
      · have c' : nz l[i] = true := by
          refine decide_eq_true fun z => ?_
          rw [z, decide_eq_true rfl] at c
          cases c
        rw [if_pos c']
        refine ⟨_, rfl, _, rfl, d, _, rfl, dg, _, rfl, _, rfl, e, _, rfl, DPut.k (k := Sum.inl l[i].a) w.h ?_, ?_⟩
        · exact size_dI (Nat.le_trans (List.length_filter_le _ _) (by rw [List.length_take]; omega)) (n := 100000) (by decide)
        · rw [dI_put, put_new _ (take_none nd hi)]
          exact ⟨_, rfl, g.set w.f (.inl w.n), w.set⟩
      · have c' : ¬ nz l[i] = true := fun z => by
          refine c ?_
          have z := of_decide_eq_true z
          show (!decide (V.int l[i].b = V.int 0)) = true
          rw [decide_eq_false (fun e => z (V.int.inj e))]; rfl
        rw [if_neg c', List.append_nil]
        exact ⟨_, rfl, g, w⟩
    · rintro σ G ⟨v2, rfl, g, w⟩
      rw [dl, List.take_length] at w
      obtain ⟨h1, h2, h3⟩ := lock_out sF hd g
      refine ⟨h1, _, rfl, ?_⟩
      refine q _ _ e h3 ⟨ne, ?_, (upd_ne de.symm).trans w.h⟩
      have f := w.f
      simp only [de.symm, if_false] at f ⊢
      exact f
/-! ### all setups of a run -/
theorem get_snoc {α : Type} {xs : List α} {x y : α} {i : Nat} (h : (xs ++ [x])[i]? = some y) : (i < xs.length ∧ xs[i]? = some y) ∨ (i = xs.length ∧ y = x) := by
  by_cases l : i < xs.length
  · rw [List.getElem?_append_left l] at h
    exact .inl ⟨l, h⟩
  · rw [List.getElem?_append_right (by omega)] at h
    cases e : i - xs.length with
    | zero => rw [e] at h; cases h; exact .inr ⟨by omega, rfl⟩
    | succ n => rw [e] at h; cases h
def Hist (M : Mach) (k : Nat) (cs : List Cfg) : Prop := cs.length = k + 1 ∧ ∀ i c, cs[i]? = some c → stepsC M i = some c
theorem Hist.uniq {M : Mach} {k : Nat} {cs cs' : List Cfg} (a : Hist M k cs) (b : Hist M k cs') : cs = cs' := by
  refine List.ext_getElem? fun i => ?_
  by_cases l : i < k + 1
  · have h1 : cs[i]? = some _ := List.getElem?_eq_getElem (by rw [a.1]; exact l)
    have h2 : cs'[i]? = some _ := List.getElem?_eq_getElem (by rw [b.1]; exact l)
    have e1 := a.2 i _ h1
    have e2 := b.2 i _ h2
    rw [e1] at e2
    rw [h1, h2, e2]
  · rw [List.getElem?_eq_none_iff.mpr (by rw [a.1]; omega), List.getElem?_eq_none_iff.mpr (by rw [b.1]; omega)]
theorem Hist.one {M : Mach} : Hist M 0 [c0] := ⟨rfl, fun i c h => by
  cases i with
  | zero => cases h; rfl
  | succ n => cases h⟩
theorem Hist.app {M : Mach} {k : Nat} {cs : List Cfg} {c : Cfg} (h : Hist M k cs) (e : stepsC M (k + 1) = some c) : Hist M (k + 1) (cs ++ [c]) := by
  refine ⟨by rw [List.length_append, h.1]; rfl, fun i b hb => ?_⟩
  rcases get_snoc hb with ⟨_, hb⟩ | ⟨rfl, rfl⟩
  · exact h.2 i b hb
  · rw [h.1]; exact e
theorem Hist.last {M : Mach} {k : Nat} {cs : List Cfg} {c : Cfg} (h : Hist M k cs) (e : stepsC M k = some c) : cs[k]? = some c := by
  have h1 : cs[k]? = some _ := List.getElem?_eq_getElem (by rw [h.1]; omega)
  have e1 := h.2 k _ h1
  rw [e] at e1
  rw [h1, ← e1]
def suOf (c : Cfg) : Setup := ⟨c.r, c.s, told c.l⟩
/-- a told list of setups, of which nothing is anybody else's -/
structure SeO (H F1 H1 : Hp) (D : Addr) (us ps : List Addr) (yss : List (List V)) (cs : List Cfg) : Prop where
  ow : Ow H F1 H1 D (.lst (us.map V.ref))
  l1 : us.length = cs.length
  l2 : ps.length = cs.length
  l3 : yss.length = cs.length
  tup : ∀ (i : Nat) u p c, us[i]? = some u → ps[i]? = some p → cs[i]? = some c → F1 u = some (.tup [.int c.r, .int c.s, .ref p])
  lst : ∀ (i : Nat) p ys, ps[i]? = some p → yss[i]? = some ys → Ow H F1 H1 p (.lst ys)
  dat : ∀ (i : Nat) ys c, yss[i]? = some ys → cs[i]? = some c → IsAll F1 ys (told c.l)
  nd : ps.Nodup
  ne : D ∉ ps
section
variable {mu : Addr → Prop} {H F H1 F1 H2 F2 : Hp} {D : Addr} {us ps : List Addr} {yss : List (List V)} {cs : List Cfg}
theorem SeO.list (x : SeO H F1 H1 D us ps yss cs) {p : Addr} (h : p ∈ ps) : ∃ ys, Ow H F1 H1 p (.lst ys) := by
  obtain ⟨i, hi⟩ := List.getElem?_of_mem h
  have l := (List.getElem?_eq_some_iff.mp hi).1
  exact ⟨_, x.lst i p _ hi (List.getElem?_eq_getElem (by rw [x.l3, ← x.l2]; exact l))⟩
theorem SeO.gr (x : SeO H F1 H1 D us ps yss cs) (g : Gr mu F1 H1 F2 H2) (k : ∀ c, mu c → c ≠ D ∧ c ∉ ps) : SeO H F2 H2 D us ps yss cs where
  ow := x.ow.call g fun z => (k D z).1 rfl
  l1 := x.l1
  l2 := x.l2
  l3 := x.l3
  tup := fun i u p c h1 h2 h3 => g.ff _ _ (x.tup i u p c h1 h2 h3)
  lst := fun i p ys h1 h2 => (x.lst i p ys h1 h2).call g fun z => (k p z).2 (List.mem_of_getElem? h1)
  dat := fun i ys c h1 h2 => (x.dat i ys c h1 h2).up g.ff
  nd := x.nd
  ne := x.ne
theorem SeO.off (x : SeO H F1 H1 D us ps yss cs) {c : Addr} {o : HO} (h : H1 c = some o) (k : ∀ xs, o ≠ .lst xs) : c ≠ D ∧ c ∉ ps := by
  refine ⟨fun z => ?_, fun z => ?_⟩
  · rw [z, x.ow.h] at h; cases h; exact k _ rfl
  · obtain ⟨ys, w⟩ := x.list z
    rw [w.h] at h; cases h; exact k _ rfl
theorem SeO.offn (x : SeO H F1 H1 D us ps yss cs) {c : Addr} (h : H1 c = none) : c ≠ D ∧ c ∉ ps := by
  refine ⟨fun z => ?_, fun z => ?_⟩
  · rw [z, x.ow.h] at h; cases h
  · obtain ⟨ys, w⟩ := x.list z
    rw [w.h] at h; cases h
theorem SeO.app (x : SeO H F1 H1 D us ps yss cs) {u p : Addr} {ys : List V} {c : Cfg} (hu : F1 u = some (.tup [.int c.r, .int c.s, .ref p])) (w : Ow H F1 H1 p (.lst ys)) (k : p ≠ D ∧ p ∉ ps) (al : IsAll F1 ys (told c.l)) :
    SeO H F1 (upd H1 D (.lst ((us ++ [u]).map V.ref))) D (us ++ [u]) (ps ++ [p]) (yss ++ [ys]) (cs ++ [c]) where
  ow := x.ow.set
  l1 := by rw [List.length_append, List.length_append, x.l1]; rfl
  l2 := by rw [List.length_append, List.length_append, x.l2]; rfl
  l3 := by rw [List.length_append, List.length_append, x.l3]; rfl
  tup := fun i u' p' c' h1 h2 h3 => by
    have := x.l1; have := x.l2
    rcases get_snoc h1 with ⟨_, h1⟩ | ⟨e1, rfl⟩
    · rcases get_snoc h2 with ⟨_, h2⟩ | ⟨e2, rfl⟩
      · rcases get_snoc h3 with ⟨_, h3⟩ | ⟨e3, rfl⟩
        · exact x.tup i u' p' c' h1 h2 h3
        · omega
      · omega
    · rcases get_snoc h2 with ⟨_, h2⟩ | ⟨e2, rfl⟩
      · omega
      · rcases get_snoc h3 with ⟨_, h3⟩ | ⟨e3, rfl⟩
        · omega
        · exact hu
  lst := fun i p' ys' h1 h2 => by
    have := x.l2; have := x.l3
    rcases get_snoc h1 with ⟨_, h1⟩ | ⟨e1, rfl⟩
    · rcases get_snoc h2 with ⟨_, h2⟩ | ⟨e2, rfl⟩
      · exact (x.lst i p' ys' h1 h2).other fun z => x.ne (by rw [← z]; exact List.mem_of_getElem? h1)
      · omega
    · rcases get_snoc h2 with ⟨_, h2⟩ | ⟨e2, rfl⟩
      · omega
      · exact w.other k.1
  dat := fun i ys' c' h1 h2 => by
    have := x.l3
    rcases get_snoc h1 with ⟨_, h1⟩ | ⟨e1, rfl⟩
    · rcases get_snoc h2 with ⟨_, h2⟩ | ⟨e2, rfl⟩
      · exact x.dat i ys' c' h1 h2
      · omega
    · rcases get_snoc h2 with ⟨_, h2⟩ | ⟨e2, rfl⟩
      · omega
      · exact al
  nd := nd_snoc x.nd k.2
  ne := fun z => by
    rcases List.mem_append.mp z with z | z
    · exact x.ne z
    · exact k.1 (List.mem_singleton.mp z).symm
theorem SeO.nil (w : Ow H F1 H1 D (.lst [])) : SeO H F1 H1 D [] [] [] [] :=
  ⟨w, rfl, rfl, rfl, (fun i u p c h => by cases h), (fun i p ys h => by cases h), (fun i ys c h => by cases h), List.nodup_nil, fun z => nomatch z⟩
/-- as it is read -/
theorem SeO.is (x : SeO H F1 H1 D us ps yss cs) (s : Same F1 H1) : Is H1 (.ref D) (cs.map suOf) := by
  refine ⟨D, _, rfl, x.ow.h, by rw [List.length_map, List.length_map, x.l1], fun i v d h1 h2 => ?_⟩
  rw [List.getElem?_map] at h1 h2
  cases hu : us[i]? with
  | none => rw [hu] at h1; cases h1
  | some u =>
    cases hc : cs[i]? with
    | none => rw [hc] at h2; cases h2
    | some c =>
      rw [hu] at h1; rw [hc] at h2
      cases h1; cases h2
      have l := (List.getElem?_eq_some_iff.mp hc).1
      have hp : ps[i]? = some _ := List.getElem?_eq_getElem (by rw [x.l2]; exact l)
      have hy : yss[i]? = some _ := List.getElem?_eq_getElem (by rw [x.l3]; exact l)
      exact ⟨u, _, _, _, rfl, s _ _ (x.tup i u _ c hu hp hc), rfl, rfl, _, _, rfl, (x.lst i _ _ hp hy).h, (x.dat i _ c hy hc).up s⟩
end
/-! ### logs -/
theorem L3_rows {a b c : V} : ([("rows", a), ("places", b), ("strips", c)] : List (Str × V)).lookup ("rows" : Str) = some a := by
  rw [List.lookup_cons, beq_self_eq_true]
theorem L3_places {a b c : V} : ([("rows", a), ("places", b), ("strips", c)] : List (Str × V)).lookup ("places" : Str) = some b := by
  rw [List.lookup_cons, beq_eq_false_iff_ne.mpr ne_Log_places_rows]
  show List.lookup ("places" : Str) [(("places" : Str), b), ("strips", c)] = _
  rw [List.lookup_cons, beq_self_eq_true]
theorem L3_strips {a b c : V} : ([("rows", a), ("places", b), ("strips", c)] : List (Str × V)).lookup ("strips" : Str) = some c := by
  rw [List.lookup_cons, beq_eq_false_iff_ne.mpr ne_Log_strips_rows]
  show List.lookup ("strips" : Str) [(("places" : Str), b), ("strips", c)] = _
  rw [List.lookup_cons, beq_eq_false_iff_ne.mpr ne_Log_strips_places]
  show List.lookup ("strips" : Str) [(("strips" : Str), c)] = _
  rw [List.lookup_cons, beq_self_eq_true]
theorem ZRel.filt {l : List PI} (h : Nd l) : ZRel l (l.filter nz) := by
  refine ⟨h, List.Sublist.nodup (List.Sublist.map _ List.filter_sublist) h, fun q m => of_decide_eq_true (List.mem_filter.mp m).2, fun x => ?_⟩
  have hf : Nd (l.filter nz) := List.Sublist.nodup (List.Sublist.map _ List.filter_sublist) h
  cases e : look (l.filter nz) x with
  | some v =>
    have m := (List.mem_filter.mp (mem_look e)).1
    rw [show look l x = some v from look_mem h m]
  | none =>
    cases f : look l x with
    | none => rfl
    | some v =>
      by_cases z : v = 0
      · rw [z]; rfl
      · have m : (⟨x, v⟩ : PI) ∈ l.filter nz := List.mem_filter.mpr ⟨mem_look f, decide_eq_true z⟩
        rw [show look (l.filter nz) x = some v from look_mem hf m] at e
        cases e
/-- the strips of a log -/
def StripsAt (F : Hp) (ts : List V) (cs : List Cfg) : Prop := All2 (fun v c => ∃ d l', v = .ref d ∧ F d = some (.dK (dI l')) ∧ ZRel c.l l') ts cs
theorem StripsAt.up {F F' : Hp} {ts : List V} {cs : List Cfg} (h : StripsAt F ts cs) (s : Same F F') : StripsAt F' ts cs :=
  h.imp fun v c ⟨d, l', e, h1, h2⟩ => ⟨d, l', e, s _ _ h1, h2⟩
structure LogAt (C : Addr) (F H : Hp) (lg R P T : Addr) (cs : List Cfg) (b : Bool) : Prop where
  ob : ∃ dx, H lg = some (.ins C dx (Log_F (.ref R) (.ref P) (.ref T) (.bl b)))
  rw : F R = some (.lst (cs.map fun c => V.int c.r))
  pl : F P = some (.lst (cs.map fun c => V.int c.s))
  st : ∃ ts, F T = some (.lst ts) ∧ StripsAt F ts cs
def sp_Log_init (C : Addr) : Sp := fun vs H Q _ => ∃ (F : Hp) (g dx : Addr) (m : V) (M : Mach) (R S n : Nat), vs = [.ref g, m, .int n] ∧ H g = some (.ins C dx []) ∧ F g = none ∧ Same F H ∧ Is F m M ∧ MOk M R S ∧ n ≤ 5000 ∧
  ∀ (F' H' : Hp) (Ra Pa Ta : Addr) (k : Nat) (c : Cfg) (cs : List Cfg), Gr (muP g) F H F' H' → F' g = none → Gone M n k c → Hist M k cs → LogAt C F' H' g Ra Pa Ta cs (decide (entOf M c = Ent.emp)) → Q .non H'
theorem ok_Log_init (t : Tx K mg) : FnOk P w K mg base CX0 3 t.a_Log_init t.fd_Log_init ["self", "machine", "most"] (sp_Log_init t.C_Log) := by
  refine t.F_Log_init.ok sc_Log_init (fun vs H Q E h => ?_) (fun cdv A outer s H vs Q E hr h => ?_)
  · obtain ⟨F, g, dx, m, M, R, S, n, rfl, _⟩ := h
    rfl
  · obtain ⟨F, lg, dl, m, M, R, S, n, rfl, hlg, fg, sF, hm, hM, hn, q⟩ := h
    refine ⟨_, (pss_cons (ps_set (i := 3) sc_Log_init.nd rfl (by first | exact Or.inl rfl | exact Or.inr rfl) (pe_make t.M_Goer (ok_Goer_init t) (hr.mono (by decide)) (by rfl) t.m_Goer t.b_Goer_init .nil pass0 (pa_cons (pv 1) (pa_cons (pe_tup (pa_cons pe_int (pa_cons pe_int (pa_cons (pe_lst pa_nil) pa_nil)))) pa_nil))))
      (pss_cons (ps_fld (pv 0) (pe_lst (pa_cons (pe_fld (pv 3) rfl) pa_nil)) rfl)
      (pss_cons (ps_fld (pv 0) (pe_lst (pa_cons (pe_fld (pv 3) rfl) pa_nil)) rfl)
      (pss_cons (ps_fld (pv 0) (pe_lst (pa_cons pe_dnewK pa_nil)) rfl)
      (pss_cons (ps_set (i := 4) sc_Log_init.nd rfl (by first | exact Or.inl rfl | exact Or.inr rfl) pe_bl)
      (pss_cons (ps_while PassesOwn.never (PW.pt (pw_and (pt_val (pv 4)) (pw_and1 (pt_cmpR op_lt (pe_fld (pv 3) rfl) (pv 2) (nomark _))))) (pss_cons (ps_set (i := 4) sc_Log_init.nd rfl (by first | exact Or.inl rfl | exact Or.inr rfl) (pe_meth0 (pv 3) t.cl_Goer t.M_Goer_step (ok_Goer_step t) (hr.mono (by decide)) t.b_Goer_step .nil pass0))
      (pss_one (ps_if (pt_val (pv 4)) (pss_cons (ps_expr (pe_bm PySem.F.plainAttrs_list PySem.F.slot_list_append PySem.F.type_list_append mt_append (pe_fld (pv 0) rfl) (pa_cons (pe_fld (pv 3) rfl) pa_nil)))
      (pss_cons (ps_expr (pe_bm PySem.F.plainAttrs_list PySem.F.slot_list_append PySem.F.type_list_append mt_append (pe_fld (pv 0) rfl) (pa_cons (pe_fld (pv 3) rfl) pa_nil)))
      (pss_one (ps_expr (pe_bm PySem.F.plainAttrs_list PySem.F.slot_list_append PySem.F.type_list_append mt_append (pe_fld (pv 0) rfl) (pa_cons (pe_call (ok_plain t) (hr.mono (by decide)) (by rfl) t.m_plain t.F_plain.kp t.b_plain .nil pass0 (pa_cons (pe_fld (pv 3) rfl) pa_nil)) pa_nil)))))) pss_nil))))
      (pss_one (ps_fld (pv 0) (pe_cmpR (op_eqD hr.units) (pe_meth0 (pv 3) t.cl_Goer t.M_Goer_entry (ok_Goer_entry t) (hr.mono (by decide)) t.b_Goer_entry .nil pass0) (pe_tup pa_nil) (nomark _)) rfl)))))))), ?_⟩
    have g0 : Gr (muP lg) F H F H := Gr.refl sF
    -- walk = Goer(machine, (0, 0, []))
    refine ⟨_, rfl, nil_le, fun l nl => ⟨three_le, fun u nu => ?_⟩⟩
    have g1 := g0.new (o := .lst []) nl
    have g2 := g1.new (o := .tup [.int 0, .int 0, .ref l]) nu
    have hx : Is (upd (upd F l (.lst [])) u (.tup [.int 0, .int 0, .ref l])) (.ref u) (⟨0, 0, []⟩ : Setup) := ⟨u, _, _, _, rfl, upd_same, rfl, rfl, l, [], rfl, ln (g1.fh.free nu) upd_same, All2.nil⟩
    have hlg2 := ln (u := .tup [.int 0, .int 0, .ref l]) nu (ln (u := .lst []) nl hlg)
    have fg2 := g2.pf fg hlg
    generalize upd (upd F l (.lst [])) u (.tup [.int 0, .int 0, .ref l]) = F2 at g2 hx fg2
    generalize upd (upd H l (.lst [])) u (.tup [.int 0, .int 0, .ref l]) = H2 at g2 hlg2
    refine fun y dy ny ndy ney => ?_
    have g3 := g2.own (o := .own y) ndy
    have ny2 : (upd H2 dy (.own y)) y = none := by rw [upd_ne ney.symm]; exact ny
    have g4 := g3.own (o := .ins t.C_Goer dy []) ny2
    have hlg4 := ln (u := .ins t.C_Goer dy []) ny2 (ln (u := .own y) ndy hlg2)
    have hy : H y = none := g2.th _ ny
    have fy : F2 y = none := g2.fh.free ny
    have lgy : lg ≠ y := fun z => by rw [z, hy] at hlg; cases hlg
    refine ⟨F2, y, dy, m, .ref u, _, rfl, upd_same, fy, g4.fh, hx, fun d H5 nd5 g5 ga => ⟨rfl, ?_⟩⟩
    have g6 := g4.thn g5 fun c z => .inr (by rw [show c = y from z]; exact hy)
    have hlg6 := g5.fr _ _ hlg4 lgy
    have hd : H d = none := g4.th _ nd5
    have fd : F2 d = none := g4.fh.free nd5
    have hm2 := hm.up g2.ff
    have lgd : lg ≠ d := fun z => by rw [z, hd] at hlg; cases hlg
    -- self.rows = [walk.row]
    obtain ⟨⟨dx, ho⟩, hdc⟩ := id ga
    refine ⟨_, rfl, y, t.C_Goer, dx, _, _, rfl, ho, t.cl_Goer, t.nA_Goer_row, Goer_get_row, one_le, fun Ra nRa => ⟨_, rfl, lg, t.C_Log, dl, [], rfl, ln nRa hlg6, t.cl_Log, t.nA_Log_rows, by show 0 < 1000; decide, ?_⟩⟩
    rw [Log_mk0]
    have g7 := (g6.own (o := .lst [.int 0]) nRa).set (o := .ins t.C_Log dl [("rows", .ref Ra)]) fg2 (.inr rfl)
    have wR : Ow H F2 (upd H5 Ra (.lst [.int 0])) Ra (.lst [.int 0]) := Ow.mk1 g6 nRa
    have lgR : lg ≠ Ra := ne_of_none hlg6 nRa
    have wR := wR.other (u := .ins t.C_Log dl [("rows", .ref Ra)]) lgR.symm
    have ga7 : GoAt t.C_Goer _ y d m 0 0 [] 0 := ⟨⟨dx, (upd_ne (o := .ins t.C_Log dl [("rows", .ref Ra)]) lgy.symm).trans (ln (u := .lst [.int 0]) nRa ho)⟩, (upd_ne lgd.symm).trans (ln nRa hdc)⟩
    have hlg7 : (upd (upd H5 Ra (.lst [.int 0])) lg (.ins t.C_Log dl [("rows", .ref Ra)])) lg = some (.ins t.C_Log dl [("rows", .ref Ra)]) := upd_same
    generalize upd (upd H5 Ra (.lst [.int 0])) lg (.ins t.C_Log dl [("rows", .ref Ra)]) = H7 at g7 wR ga7 hlg7
    obtain ⟨⟨dx7, ho7⟩, hdc7⟩ := id ga7
    -- self.places = [walk.spot]
    refine ⟨_, rfl, y, t.C_Goer, dx7, _, _, rfl, ho7, t.cl_Goer, t.nA_Goer_spot, Goer_get_spot, one_le, fun Pa nPa => ⟨_, rfl, lg, t.C_Log, dl, _, rfl, ln nPa hlg7, t.cl_Log, t.nA_Log_places, by show 1 < 1000; decide, ?_⟩⟩
    rw [Log_mk1]
    have g8 := (g7.own (o := .lst [.int 0]) nPa).set (o := .ins t.C_Log dl [("rows", .ref Ra), ("places", .ref Pa)]) fg2 (.inr rfl)
    have wP : Ow H F2 (upd H7 Pa (.lst [.int 0])) Pa (.lst [.int 0]) := Ow.mk1 g7 nPa
    have lgP : lg ≠ Pa := ne_of_none hlg7 nPa
    have RP : Ra ≠ Pa := wR.ne nPa
    have wP := wP.other (u := .ins t.C_Log dl [("rows", .ref Ra), ("places", .ref Pa)]) lgP.symm
    have wR := (wR.own (u := .lst [.int 0]) nPa).other (u := .ins t.C_Log dl [("rows", .ref Ra), ("places", .ref Pa)]) lgR.symm
    have ga8 : GoAt t.C_Goer _ y d m 0 0 [] 0 := ⟨⟨dx7, (upd_ne (o := .ins t.C_Log dl [("rows", .ref Ra), ("places", .ref Pa)]) lgy.symm).trans (ln (u := .lst [.int 0]) nPa ho7)⟩, (upd_ne lgd.symm).trans (ln nPa hdc7)⟩
    have hlg8 : (upd (upd H7 Pa (.lst [.int 0])) lg (.ins t.C_Log dl [("rows", .ref Ra), ("places", .ref Pa)])) lg = some (.ins t.C_Log dl [("rows", .ref Ra), ("places", .ref Pa)]) := upd_same
    generalize upd (upd H7 Pa (.lst [.int 0])) lg (.ins t.C_Log dl [("rows", .ref Ra), ("places", .ref Pa)]) = H8 at g8 wR wP ga8 hlg8
    -- self.strips = [{}]
    refine fun e0 ne0 => ⟨one_le, fun Ta nTa => ⟨_, rfl, lg, t.C_Log, dl, _, rfl, ln nTa (ln ne0 hlg8), t.cl_Log, t.nA_Log_strips, by show 2 < 1000; decide, ?_⟩⟩
    rw [Log_mk2]
    have g9 := g8.new (o := .dK []) ne0
    have lgT : lg ≠ Ta := ne_of_none (ln (u := .dK []) ne0 hlg8) nTa
    have wT : Ow H _ _ Ta (.lst [.ref e0]) := Ow.mk1 g9 nTa
    have RT : Ra ≠ Ta := (wR.new (u := .dK []) ne0).ne nTa
    have PT : Pa ≠ Ta := (wP.new (u := .dK []) ne0).ne nTa
    have g10 := (g9.own (o := .lst [.ref e0]) nTa).set (o := .ins t.C_Log dl [("rows", .ref Ra), ("places", .ref Pa), ("strips", .ref Ta)]) (by rw [upd_ne (ne_of_none hlg8 ne0)]; exact fg2) (.inr rfl)
    have wT := wT.other (u := .ins t.C_Log dl [("rows", .ref Ra), ("places", .ref Pa), ("strips", .ref Ta)]) lgT.symm
    have wR := ((wR.new (u := .dK []) ne0).own (u := .lst [.ref e0]) nTa).other (u := .ins t.C_Log dl [("rows", .ref Ra), ("places", .ref Pa), ("strips", .ref Ta)]) lgR.symm
    have wP := ((wP.new (u := .dK []) ne0).own (u := .lst [.ref e0]) nTa).other (u := .ins t.C_Log dl [("rows", .ref Ra), ("places", .ref Pa), ("strips", .ref Ta)]) lgP.symm
    obtain ⟨⟨dx8, ho8⟩, hdc8⟩ := id ga8
    have ga10 : GoAt t.C_Goer _ y d m 0 0 [] 0 := ⟨⟨dx8, (upd_ne (o := .ins t.C_Log dl [("rows", .ref Ra), ("places", .ref Pa), ("strips", .ref Ta)]) lgy.symm).trans (ln (u := .lst [.ref e0]) nTa (ln (u := .dK []) ne0 ho8))⟩, (upd_ne lgd.symm).trans (ln nTa (ln ne0 hdc8))⟩
    have hlg10 : (upd (upd (upd H8 e0 (.dK [])) Ta (.lst [.ref e0])) lg (.ins t.C_Log dl [("rows", .ref Ra), ("places", .ref Pa), ("strips", .ref Ta)])) lg = some (.ins t.C_Log dl [("rows", .ref Ra), ("places", .ref Pa), ("strips", .ref Ta)]) := upd_same
    have s2 : Same F2 (upd F2 e0 (.dK [])) := sm_new (Same.refl F2) (g8.fh.free ne0)
    have st0 : StripsAt (upd F2 e0 (.dK [])) [.ref e0] [c0] := All2.one ⟨e0, [], rfl, upd_same, ZRel.nil⟩
    have fy10 : (upd F2 e0 (.dK [])) y = none := by rw [upd_ne (ne_of_none ho8 ne0)]; exact fy
    have fd10 : (upd F2 e0 (.dK [])) d = none := by rw [upd_ne (ne_of_none hdc8 ne0)]; exact fd
    have fg10 : (upd F2 e0 (.dK [])) lg = none := by rw [upd_ne (ne_of_none hlg8 ne0)]; exact fg2
    generalize upd F2 e0 (.dK []) = F3 at g10 wT wR wP s2 st0 fy10 fd10 fg10
    generalize upd (upd (upd H8 e0 (.dK [])) Ta (.lst [.ref e0])) lg (.ins t.C_Log dl [("rows", .ref Ra), ("places", .ref Pa), ("strips", .ref Ta)]) = H10 at g10 wT wR wP ga10 hlg10
    -- while going and walk.steps < most
    refine ⟨fun k σ G => ∃ (F1 : Hp) (j : Nat) (c : Cfg) (b : Bool) (cs : List Cfg) (ts : List V), k = 2 * (n - j) + b.toNat ∧ σ = [some (.ref lg), some m, some (.int n), some (.ref y), some (.bl b)] ∧ Gr (muP lg) F H F1 G ∧ F1 lg = none ∧ F1 y = none ∧ F1 d = none ∧ Same F3 F1 ∧ G lg = some (.ins t.C_Log dl [("rows", .ref Ra), ("places", .ref Pa), ("strips", .ref Ta)]) ∧ GoAt t.C_Goer G y d m c.r c.s c.l j ∧ stepsC M j = some c ∧ j ≤ n ∧ (b = false → stepC M c = none) ∧ Hist M j cs ∧
        Ow H F1 G Ra (.lst (cs.map fun c => V.int c.r)) ∧ Ow H F1 G Pa (.lst (cs.map fun c => V.int c.s)) ∧ Ow H F1 G Ta (.lst ts) ∧ StripsAt F1 ts cs,
      ⟨_, F3, 0, c0, true, [c0], _, rfl, rfl, g10, fg10, fy10, fd10, Same.refl _, hlg10, ga10, rfl, Nat.zero_le _, (fun z => nomatch z), Hist.one, wR, wP, wT, st0⟩, ?_⟩
    rintro k σ G ⟨F1, j, c, b, cs, ts, rfl, rfl, g, fg, fy, fd, s3, hlg, ga, st, lj, hb, hh, wR, wP, wT, sa⟩
    obtain ⟨ok, ll⟩ := stepsC_ok hM st
    have hm1 := (hm2.up s2).up s3
    obtain ⟨row, er, s0, ee, eo⟩ := ok.ent hM
    obtain ⟨⟨dx, ho⟩, hdc⟩ := id ga
    have yR : Ra ≠ y := ne_of wR.h ho (by intro z; cases z)
    have yP : Pa ≠ y := ne_of wP.h ho (by intro z; cases z)
    have yT : Ta ≠ y := ne_of wT.h ho (by intro z; cases z)
    have dR : Ra ≠ d := ne_of wR.h hdc (by intro z; cases z)
    have dP : Pa ≠ d := ne_of wP.h hdc (by intro z; cases z)
    have dT : Ta ≠ d := ne_of wT.h hdc (by intro z; cases z)
    have lcs := hh.1
    have lts : ts.length = cs.length := sa.1
    -- what comes behind the loop
    have fin : ∀ G1, Gr mu0 F1 G F1 G1 → (stepC M c = none ∨ j = n) → ∀ H2 : Hp, H2 = upd G1 lg (.ins t.C_Log dl (Log_F (.ref Ra) (.ref Pa) (.ref Ta) (.bl (decide (entOf M c = Ent.emp))))) → Q .non H2 := by
      intro G1 k1 hend H2 eH
      have wR1 := wR.call k1 fun z => z
      have wP1 := wP.call k1 fun z => z
      have wT1 := wT.call k1 fun z => z
      have g1 := (g.trans (k1.weak (mu' := muP lg) fun c z => z.elim)).set (o := .ins t.C_Log dl (Log_F (.ref Ra) (.ref Pa) (.ref Ta) (.bl (decide (entOf M c = Ent.emp))))) fg (.inr rfl)
      obtain ⟨gz, sz⟩ := g1.frzS (fun c => c = Ra ∨ c = Pa ∨ c = Ta) fun c k => by
        rcases k with rfl | rfl | rfl
        · exact ⟨wR1.n, wR1.f⟩
        · exact ⟨wP1.n, wP1.f⟩
        · exact ⟨wT1.n, wT1.f⟩
      subst eH
      refine q _ _ Ra Pa Ta j c cs gz ?_ ⟨lj, st, hend⟩ hh ⟨⟨dl, upd_same⟩, (if_pos (.inl rfl)).trans ((upd_ne lgR.symm).trans wR1.h), (if_pos (.inr (.inl rfl))).trans ((upd_ne lgP.symm).trans wP1.h), ts, (if_pos (.inr (.inr rfl))).trans ((upd_ne lgT.symm).trans wT1.h), sa.up sz⟩
      exact (if_neg (fun z => by rcases z with z | z | z; exact lgR z; exact lgP z; exact lgT z)).trans fg
    refine ⟨_, rfl, _, rfl, ?_⟩
    refine ite2 (fun cb => ?_) (fun cb => ?_)
    · refine ⟨_, rfl, y, t.C_Goer, dx, _, _, rfl, ho, t.cl_Goer, t.nA_Goer_steps, Goer_get_steps, _, rfl, _, _, rfl, rfl, _, rfl, ?_⟩
      refine ite2 (fun cl => ?_) (fun cl => ?_)
      · have cl : (j : Int) < n := of_decide_eq_true cl
        refine ⟨_, fun _ _ h => h, ?_⟩
        refine ⟨_, rfl, y, dx, _, rfl, ho, Goer_no (by decide +kernel) (by decide +kernel) (by decide +kernel) (by decide +kernel) (by decide +kernel), F1, y, d, m, M, c.r, c.s, c.l, j, row, entOf M c, rfl, g.fh, fy, fd, hm1, ga, ok.r0, er, s0, ee, by omega, fun he H6 g6 => ?_, fun p w r' he H6 g6 gb => ?_⟩
        · refine ⟨_, rfl, _, rfl, ifF rfl ?_⟩
          exact ⟨2 * (n - j), by rw [cb]; show _ < 2 * (n - j) + 1; omega, F1, j, c, false, cs, ts, rfl, rfl, g.trans (g6.weak (mu' := muP lg) fun c z => z.elim), fg, fy, fd, s3, g6.fr _ _ hlg fun z => z, ga.gr g6 (fun z => z) (fun z => z), st, lj, (fun _ => stepC_none.mpr he), hh, wR.call g6 fun z => z, wP.call g6 fun z => z, wT.call g6 fun z => z, sa⟩
        · have st1 := stepC_go he
          have st2 := (stepsC_next st).trans st1
          have ok2 := ok.step hM st1
          have gg := g.thn g6 (fun c z => .inr (by rcases z with rfl | rfl <;> assumption))
          have hlgA := g6.fr _ _ hlg (fun z => by rcases z with z | z; exact lgy z; exact lgd z)
          have wR1 := wR.call g6 (fun z => by rcases z with z | z; exact yR z; exact dR z)
          have wP1 := wP.call g6 (fun z => by rcases z with z | z; exact yP z; exact dP z)
          have wT1 := wT.call g6 (fun z => by rcases z with z | z; exact yT z; exact dT z)
          obtain ⟨⟨dxb, hob⟩, hdb⟩ := id gb
          refine ⟨_, rfl, _, rfl, ifT rfl ?_⟩
          -- self.rows.append(walk.row)
          refine ⟨_, rfl, lg, t.C_Log, dl, _, _, rfl, hlgA, t.cl_Log, t.nA_Log_rows, L3_rows, .inl ⟨rfl, _, SqL.of wR1.h⟩, _, rfl, y, t.C_Goer, dxb, _, _, rfl, hob, t.cl_Goer, t.nA_Goer_row, Goer_get_row, Ra, _, _, rfl, rfl, wR1.h, by rw [List.length_map]; exact lt_size (by omega), ?_⟩
          have lR : (cs.map fun c => V.int c.r) ++ [V.int r'] = (cs ++ [(⟨r', c.s + w, put c.l c.s p⟩ : Cfg)]).map fun c => V.int c.r := by rw [List.map_append]; rfl
          have lP : (cs.map fun c => V.int c.s) ++ [V.int (c.s + w)] = (cs ++ [(⟨r', c.s + w, put c.l c.s p⟩ : Cfg)]).map fun c => V.int c.s := by rw [List.map_append]; rfl
          rw [lR]
          have gA := gg.set (o := .lst ((cs ++ [(⟨r', c.s + w, put c.l c.s p⟩ : Cfg)]).map fun c => V.int c.r)) wR1.f (.inl wR1.n)
          have wR2 := wR1.set (u := .lst ((cs ++ [(⟨r', c.s + w, put c.l c.s p⟩ : Cfg)]).map fun c => V.int c.r))
          have wP2 := wP1.other (u := .lst ((cs ++ [(⟨r', c.s + w, put c.l c.s p⟩ : Cfg)]).map fun c => V.int c.r)) RP.symm
          have wT2 := wT1.other (u := .lst ((cs ++ [(⟨r', c.s + w, put c.l c.s p⟩ : Cfg)]).map fun c => V.int c.r)) RT.symm
          have hlgB := (upd_ne (o := .lst ((cs ++ [(⟨r', c.s + w, put c.l c.s p⟩ : Cfg)]).map fun c => V.int c.r)) lgR).trans hlgA
          have gb2 : GoAt t.C_Goer _ y d m r' (c.s + w) (put c.l c.s p) (j + 1) := ⟨⟨dxb, (upd_ne (o := .lst ((cs ++ [(⟨r', c.s + w, put c.l c.s p⟩ : Cfg)]).map fun c => V.int c.r)) yR.symm).trans hob⟩, (upd_ne dR.symm).trans hdb⟩
          generalize upd H6 Ra (.lst ((cs ++ [(⟨r', c.s + w, put c.l c.s p⟩ : Cfg)]).map fun c => V.int c.r)) = H7 at gA wR2 wP2 wT2 hlgB gb2
          obtain ⟨⟨dxc, hoc⟩, hdc'⟩ := id gb2
          -- self.places.append(walk.spot)
          refine ⟨_, rfl, lg, t.C_Log, dl, _, _, rfl, hlgB, t.cl_Log, t.nA_Log_places, L3_places, .inl ⟨rfl, _, SqL.of wP2.h⟩, _, rfl, y, t.C_Goer, dxc, _, _, rfl, hoc, t.cl_Goer, t.nA_Goer_spot, Goer_get_spot, Pa, _, _, rfl, rfl, wP2.h, by rw [List.length_map]; exact lt_size (by omega), ?_⟩
          rw [lP]
          have gB := gA.set (o := .lst ((cs ++ [(⟨r', c.s + w, put c.l c.s p⟩ : Cfg)]).map fun c => V.int c.s)) wP2.f (.inl wP2.n)
          have wP3 := wP2.set (u := .lst ((cs ++ [(⟨r', c.s + w, put c.l c.s p⟩ : Cfg)]).map fun c => V.int c.s))
          have wR3 := wR2.other (u := .lst ((cs ++ [(⟨r', c.s + w, put c.l c.s p⟩ : Cfg)]).map fun c => V.int c.s)) RP
          have wT3 := wT2.other (u := .lst ((cs ++ [(⟨r', c.s + w, put c.l c.s p⟩ : Cfg)]).map fun c => V.int c.s)) PT.symm
          have hlgC := (upd_ne (o := .lst ((cs ++ [(⟨r', c.s + w, put c.l c.s p⟩ : Cfg)]).map fun c => V.int c.s)) lgP).trans hlgB
          have gb3 : GoAt t.C_Goer _ y d m r' (c.s + w) (put c.l c.s p) (j + 1) := ⟨⟨dxc, (upd_ne (o := .lst ((cs ++ [(⟨r', c.s + w, put c.l c.s p⟩ : Cfg)]).map fun c => V.int c.s)) yP.symm).trans hoc⟩, (upd_ne dP.symm).trans hdc'⟩
          generalize upd H7 Pa (.lst ((cs ++ [(⟨r', c.s + w, put c.l c.s p⟩ : Cfg)]).map fun c => V.int c.s)) = H8 at gB wR3 wP3 wT3 hlgC gb3
          obtain ⟨⟨dxd, hod⟩, hdd⟩ := id gb3
          -- self.strips.append(plain(walk.signs))
          refine ⟨_, rfl, lg, t.C_Log, dl, _, _, rfl, hlgC, t.cl_Log, t.nA_Log_strips, L3_strips, .inl ⟨rfl, _, SqL.of wT3.h⟩, _, rfl, y, t.C_Goer, dxd, _, _, rfl, hod, t.cl_Goer, t.nA_Goer_signs, Goer_get_signs, ?_⟩
          refine ⟨F1, d, put c.l c.s p, rfl, gB.fh, hdd, ok2.nd, by have := put_len c.l c.s p; omega, fun F9 H9 e g9 we => ?_⟩
          have wT4 := wT3.call g9 fun z => z
          have wR4 := wR3.call g9 fun z => z
          have wP4 := wP3.call g9 fun z => z
          have gC := gB.trans (g9.weak (mu' := muP lg) fun c z => z.elim)
          have eT : Ta ≠ e := ne_of wT4.h we.h (by intro z; cases z)
          have eR : Ra ≠ e := ne_of wR4.h we.h (by intro z; cases z)
          have eP : Pa ≠ e := ne_of wP4.h we.h (by intro z; cases z)
          have nye := g9.fr _ _ hod fun z => z
          have nde := g9.fr _ _ hdd fun z => z
          have nlge := g9.fr _ _ hlgC fun z => z
          have nyE : y ≠ e := ne_of nye we.h (by intro z; cases z)
          have ndE : d ≠ e := ne_of_none hdd we.n
          have nlgE : lg ≠ e := ne_of nlge we.h (by intro z; cases z)
          have gD := gC.frz we.h (gB.th _ we.n) we.f
          have s9 : Same F9 (upd F9 e (.dK (dI ((put c.l c.s p).filter nz)))) := sm_new (Same.refl F9) we.f
          have up : ∀ {q : Addr} {o : HO}, q ≠ e → Ow H F9 H9 q o → Ow H (upd F9 e (.dK (dI ((put c.l c.s p).filter nz)))) H9 q o := fun ne w => ⟨w.n, by rw [upd_ne ne]; exact w.f, w.h⟩
          have wT5 := up eT wT4
          have wR5 := up eR wR4
          have wP5 := up eP wP4
          have fe : (upd F9 e (.dK (dI ((put c.l c.s p).filter nz)))) e = some (.dK (dI ((put c.l c.s p).filter nz))) := upd_same
          have fy9 : (upd F9 e (.dK (dI ((put c.l c.s p).filter nz)))) y = none := by rw [upd_ne nyE]; exact g9.pf fy hod
          have fd9 : (upd F9 e (.dK (dI ((put c.l c.s p).filter nz)))) d = none := by rw [upd_ne ndE]; exact g9.pf fd hdd
          have fg9 : (upd F9 e (.dK (dI ((put c.l c.s p).filter nz)))) lg = none := by rw [upd_ne nlgE]; exact g9.pf fg hlgC
          have sa9 := (sa.up g9.ff).up s9
          have s39 : Same F3 (upd F9 e (.dK (dI ((put c.l c.s p).filter nz)))) := fun c o h => s9 _ _ (g9.ff _ _ (s3 _ _ h))
          generalize upd F9 e (.dK (dI ((put c.l c.s p).filter nz))) = Fe at gD wT5 wR5 wP5 fe fy9 fd9 fg9 sa9 s39
          refine ⟨Ta, _, _, rfl, rfl, wT5.h, lt_size (by omega), ?_⟩
          have gE := gD.set (o := .lst (ts ++ [.ref e])) wT5.f (.inl wT5.n)
          exact ⟨2 * (n - (j + 1)) + 1, by rw [cb]; show _ < 2 * (n - j) + 1; omega, Fe, j + 1, ⟨r', c.s + w, put c.l c.s p⟩, true, cs ++ [⟨r', c.s + w, put c.l c.s p⟩], ts ++ [.ref e], rfl, rfl, gE, fg9, fy9, fd9, s39, (upd_ne lgT).trans nlge, ⟨⟨dxd, (upd_ne yT.symm).trans nye⟩, (upd_ne dT.symm).trans nde⟩, st2, by omega, (fun z => nomatch z), hh.app st2, wR5.other RT, wP5.other PT, wT5.set, sa9.app (All2.one ⟨e, _, rfl, fe, ZRel.filt ok2.nd⟩)⟩
      · have cl : ¬ (j : Int) < n := fun z => cl (decide_eq_true z)
        refine ⟨_, rfl, y, dx, _, rfl, ho, Goer_no (by decide +kernel) (by decide +kernel) (by decide +kernel) (by decide +kernel) (by decide +kernel), F1, y, d, m, M, c.r, c.s, c.l, j, row, entOf M c, rfl, g.fh, hm1, ga, ok.r0, er, s0, ee, fun v hv => ⟨nil_le, fun p np => ?_⟩⟩
        refine eq_dat (a := entOf M c) (b := Ent.emp) (hv.up (g.own np).fh) ⟨p, rfl, upd_same⟩ ⟨_, rfl, lg, t.C_Log, dl, _, rfl, ln np hlg, t.cl_Log, t.nA_Log_has_ended, by show 3 < 1000; decide, ?_⟩
        rw [Log_mk3]
        exact fin _ ((Gr.refl (mu := mu0) g.fh).own np) (.inr (by omega)) _ rfl
    · refine ifF rfl ?_
      have cb : b = false := by cases b with | false => rfl | true => exact absurd rfl cb
      refine ⟨_, rfl, y, dx, _, rfl, ho, Goer_no (by decide +kernel) (by decide +kernel) (by decide +kernel) (by decide +kernel) (by decide +kernel), F1, y, d, m, M, c.r, c.s, c.l, j, row, entOf M c, rfl, g.fh, hm1, ga, ok.r0, er, s0, ee, fun v hv => ⟨nil_le, fun p np => ?_⟩⟩
      refine eq_dat (a := entOf M c) (b := Ent.emp) (hv.up (g.own np).fh) ⟨p, rfl, upd_same⟩ ⟨_, rfl, lg, t.C_Log, dl, _, rfl, ln np hlg, t.cl_Log, t.nA_Log_has_ended, by show 3 < 1000; decide, ?_⟩
      rw [Log_mk3]
      exact fin _ ((Gr.refl (mu := mu0) g.fh).own np) (.inl (hb cb)) _ rfl
/-! ### a log's last moment, setups that are the same -/
def sp_Log_last (C : Addr) : Sp := fun vs H Q _ => ∃ (F : Hp) (g Ra Pa Ta : Addr) (cs : List Cfg) (b : Bool), vs = [.ref g] ∧ Same F H ∧ LogAt C F H g Ra Pa Ta cs b ∧ Q (.int ((cs.length : Int) - 1 - (if b then 1 else 0))) H
theorem ok_Log_last (t : Tx K mg) : FnOk P w K mg base CX0 1 t.a_Log_last t.fd_Log_last ["self"] (sp_Log_last t.C_Log) := by
  refine t.F_Log_last.ok sc_Log_last (fun vs H Q E h => ?_) (fun cdv A outer s H vs Q E hr h => ?_)
  · obtain ⟨F, g, Ra, Pa, Ta, cs, b, rfl, _⟩ := h
    rfl
  · obtain ⟨F, g, Ra, Pa, Ta, cs, b, rfl, sF, x, q⟩ := h
    refine ⟨_, (pss_one (ps_ret (pe_op op_sub (pe_op op_sub (pe_callB (id := "len") call_lenQ (by rfl) t.n_len (by decide +kernel) (pa_cons (pe_fld (pv 0) rfl) pa_nil)) pe_int) (pe_callTy (T := "int") call_int1 (by rfl) t.n_int (by decide +kernel) (pa_cons (pe_fld (pv 0) rfl) pa_nil))))), ?_⟩
    obtain ⟨dx, ho⟩ := x.ob
    refine ⟨_, rfl, g, t.C_Log, dx, _, _, rfl, ho, t.cl_Log, t.nA_Log_rows, Log_get_rows, Ra, _, rfl, .inl (SqL.of (sF _ _ x.rw)), _, _, rfl, rfl, ?_⟩
    refine ⟨_, rfl, g, t.C_Log, dx, _, _, rfl, ho, t.cl_Log, t.nA_Log_has_ended, Log_get_has_ended, .inr ⟨b, rfl, _, _, rfl, rfl, ?_⟩⟩
    rw [List.length_map]
    exact q
/-- how many setups are known of a run: all but the one at an empty entry -/
def known (M : Mach) (k : Nat) (c : Cfg) : Nat := if entOf M c = Ent.emp then k else k + 1
def sameC (c c' : Cfg) : Bool := decide (c.r = c'.r) && decide (c.s = c'.s) && decide (told c.l = told c'.l)
theorem same_told {l l' m m' : List PI} (h : ZRel l l') (k : ZRel m m') : sameD l' m' = decide (told l = told m) := by
  rw [Bool.eq_iff_iff, sameD_iff h.n' k.n', decide_eq_true_iff, h.told, k.told]
  constructor
  · intro e
    refine srt_uniq (srt_srt _) (srt_srt _) ((srt_perm _).trans (List.Perm.trans ?_ (srt_perm _).symm))
    refine (List.perm_ext_iff_of_nodup (nd_nodup h.n') (nd_nodup k.n')).mpr fun q => ⟨fun m => ?_, fun m => ?_⟩
    · have a := look_mem h.n' m
      rw [e] at a
      exact mem_look a
    · have a := look_mem k.n' m
      rw [← e] at a
      exact mem_look a
  · intro e x
    have p : l'.Perm m' := ((srt_perm l').symm.trans (by rw [e])).trans (srt_perm m')
    cases a : look l' x with
    | some v =>
      have := p.mem_iff.mp (mem_look a)
      exact (look_mem k.n' this).symm
    | none =>
      cases b : look m' x with
      | none => rfl
      | some v =>
        have := p.mem_iff.mpr (mem_look b)
        rw [show look l' x = some v from look_mem h.n' this] at a
        cases a
def sp_Log_same (C : Addr) : Sp := fun vs H Q _ => ∃ (F : Hp) (g Ra Pa Ta : Addr) (cs : List Cfg) (b : Bool) (i j : Nat) (ci cj : Cfg), vs = [.ref g, .int i, .int j] ∧ Same F H ∧ LogAt C F H g Ra Pa Ta cs b ∧ cs[i]? = some ci ∧ cs[j]? = some cj ∧ Q (.bl (sameC ci cj)) H
theorem ok_Log_same (t : Tx K mg) : FnOk P w K mg base CX0 1 t.a_Log_same t.fd_Log_same ["self", "one", "other"] (sp_Log_same t.C_Log) := by
  refine t.F_Log_same.ok sc_Log_same (fun vs H Q E h => ?_) (fun cdv A outer s H vs Q E hr h => ?_)
  · obtain ⟨F, g, Ra, Pa, Ta, cs, b, i, j, ci, cj, rfl, _⟩ := h
    rfl
  · obtain ⟨F, g, Ra, Pa, Ta, cs, b, i, j, ci, cj, rfl, sF, x, hi, hj, q⟩ := h
    refine ⟨_, (pss_cons (ps_if (PW.pt (pw_or (pt_cmpR op_ne (pe_ix ix_list (pe_fld (pv 0) rfl) (pv 1) (fun _ _ => rfl)) (pe_ix ix_list (pe_fld (pv 0) rfl) (pv 2) (fun _ _ => rfl)) (nomark _)) (pw_or1 (pt_cmpR op_ne (pe_ix ix_list (pe_fld (pv 0) rfl) (pv 1) (fun _ _ => rfl)) (pe_ix ix_list (pe_fld (pv 0) rfl) (pv 2) (fun _ _ => rfl)) (nomark _))))) (pss_one (ps_ret pe_bl)) pss_nil)
      (pss_one (ps_ret (pe_cmpR (op_eqDi hr.units) (pe_ix ix_list (pe_fld (pv 0) rfl) (pv 1) (fun _ _ => rfl)) (pe_ix ix_list (pe_fld (pv 0) rfl) (pv 2) (fun _ _ => rfl)) (by rfl))))), ?_⟩
    obtain ⟨dx, ho⟩ := x.ob
    obtain ⟨ts, hT, sa⟩ := x.st
    have hR := SqL.of (K := K) (sF _ _ x.rw)
    have hP := SqL.of (K := K) (sF _ _ x.pl)
    have hT' := SqL.of (K := K) (sF _ _ hT)
    have atR : ∀ {i : Nat} {c : Cfg}, cs[i]? = some c → (cs.map fun c => V.int c.r)[i]? = some (.int c.r) := fun h => by rw [List.getElem?_map, h]; rfl
    have atP : ∀ {i : Nat} {c : Cfg}, cs[i]? = some c → (cs.map fun c => V.int c.s)[i]? = some (.int c.s) := fun h => by rw [List.getElem?_map, h]; rfl
    refine ⟨_, rfl, g, t.C_Log, dx, _, _, rfl, ho, t.cl_Log, t.nA_Log_rows, Log_get_rows, _, rfl, Ra, _, _, _, rfl, rfl, hR, atI_nat (j := i) (atR hi), ?_⟩
    refine ⟨_, rfl, g, t.C_Log, dx, _, _, rfl, ho, t.cl_Log, t.nA_Log_rows, Log_get_rows, _, rfl, Ra, _, _, _, rfl, rfl, hR, atI_nat (j := j) (atR hj), rfl, _, rfl, ?_⟩
    have no : ∀ {a b : Int}, a ≠ b → decide (V.int a = V.int b) = false := fun h => decide_eq_false fun z => h (V.int.inj z)
    have yes' : ∀ {a b : Int}, (!decide (V.int a = V.int b)) = true → ¬ a = b := fun h z => by rw [z, decide_eq_true rfl] at h; exact absurd h (by decide)
    have not' : ∀ {a b : Int}, ¬ (!decide (V.int a = V.int b)) = true → a = b := fun {a b} h => by
      by_cases z : a = b
      · exact z
      · rw [no z] at h; exact absurd rfl h
    refine ite2 (fun c => ?_) (fun c => ?_)
    · have e : sameC ci cj = false := by unfold sameC; rw [decide_eq_false (yes' c)]; rfl
      rw [e] at q
      exact ifT rfl q
    · have er := not' c
      refine ⟨_, rfl, g, t.C_Log, dx, _, _, rfl, ho, t.cl_Log, t.nA_Log_places, Log_get_places, _, rfl, Pa, _, _, _, rfl, rfl, hP, atI_nat (j := i) (atP hi), ?_⟩
      refine ⟨_, rfl, g, t.C_Log, dx, _, _, rfl, ho, t.cl_Log, t.nA_Log_places, Log_get_places, _, rfl, Pa, _, _, _, rfl, rfl, hP, atI_nat (j := j) (atP hj), rfl, _, rfl, ?_⟩
      refine ite2 (fun c => ?_) (fun c => ?_)
      · have e : sameC ci cj = false := by unfold sameC; rw [decide_eq_false (yes' c), Bool.and_false]; rfl
        rw [e] at q
        exact q
      · have es := not' c
        obtain ⟨vi, hvi, di, li, rfl, hdi, zi⟩ := sa.get hi
        obtain ⟨vj, hvj, dj, lj, rfl, hdj, zj⟩ := sa.get hj
        refine ⟨_, rfl, g, t.C_Log, dx, _, _, rfl, ho, t.cl_Log, t.nA_Log_strips, Log_get_strips, _, rfl, Ta, _, _, _, rfl, rfl, hT', atI_nat (j := i) hvi, ?_⟩
        refine ⟨_, rfl, g, t.C_Log, dx, _, _, rfl, ho, t.cl_Log, t.nA_Log_strips, Log_get_strips, _, rfl, Ta, _, _, _, rfl, rfl, hT', atI_nat (j := j) hvj, ?_⟩
        refine ⟨di, dj, li, lj, rfl, rfl, sF _ _ hdi, sF _ _ hdj, zi.n', ?_⟩
        have e : sameC ci cj = sameD li lj := by
          unfold sameC
          rw [decide_eq_true er, decide_eq_true es, same_told zi zj]; rfl
        rw [e] at q
        exact q
def tRing : TStr := ⟨"ring", by decide +kernel⟩
/-! ### setups that are the same, machines that go on, machines that end -/
def SameAt (M : Mach) (f l : Nat) : Prop := ∃ ci cj, stepsC M f = some ci ∧ stepsC M l = some cj ∧ sameC ci cj = true
/-! ### the first ring among the first K setups -/
def RingOf (M : Mach) (K : Nat) : Option (Nat × Nat) → Prop
  | none => ∀ f l, f < l → l < K → ¬ SameAt M f l
  | some (f, l) => f < l ∧ l < K ∧ SameAt M f l ∧ ∀ f' l', f' < l' → (l' < l ∨ (l' = l ∧ f' < f)) → ¬ SameAt M f' l'
theorem RingOf.uniq {M : Mach} {K : Nat} : ∀ {o o' : Option (Nat × Nat)}, RingOf M K o → RingOf M K o' → o = o'
  | none, none, _, _ => rfl
  | none, some (f, l), a, ⟨h1, h2, h3, _⟩ => (a f l h1 h2 h3).elim
  | some (f, l), none, ⟨h1, h2, h3, _⟩, b => (b f l h1 h2 h3).elim
  | some (f, l), some (f', l'), ⟨h1, h2, h3, h4⟩, ⟨k1, k2, k3, k4⟩ => by
    have a : ¬ (l' < l ∨ (l' = l ∧ f' < f)) := fun z => h4 f' l' k1 z k3
    have b : ¬ (l < l' ∨ (l = l' ∧ f < f')) := fun z => k4 f l h1 z h3
    have e1 : l = l' := by omega
    subst e1
    have e2 : f = f' := by omega
    rw [e2]
abbrev RingR := Option (T3 TStr Int Int)
def ringD : Option (Nat × Nat) → RingR
  | none => none
  | some (f, l) => some ⟨tRing, f, l⟩
def sp_ring : Sp := fun vs H Q _ => ∃ (F : Hp) (m : V) (M : Mach) (R S n : Nat), vs = [m, .int n] ∧ Same F H ∧ Is F m M ∧ MOk M R S ∧ n ≤ 5000 ∧
  ∀ (F' H' : Hp) (v : V) (k : Nat) (c : Cfg) (o : Option (Nat × Nat)), Gr mu0 F H F' H' → Gone M n k c → RingOf M (known M k c) o → Is F' v (ringD o) → Q v H'
theorem ok_ring (t : Tx K mg) : FnOk P w K mg base CX0 5 t.a_ring t.fd_ring ["machine", "most"] sp_ring := by
  refine t.F_ring.ok sc_ring (fun vs H Q E h => ?_) (fun cdv A outer s H vs Q E hr h => ?_)
  · obtain ⟨F, m, M, R, S, n, rfl, _⟩ := h
    rfl
  · obtain ⟨F, m, M, R, S, n, rfl, sF, hm, hM, hn, q⟩ := h
    refine ⟨_, (pss_cons (ps_expr (pe_call (ok_must_machine t) (hr.mono (by decide)) (by rfl) t.m_must_machine t.F_must_machine.kp t.b_must_machine .nil pass0 (pa_cons (pv 0) pa_nil)))
      (pss_cons (ps_set (i := 2) sc_ring.nd rfl (by first | exact Or.inl rfl | exact Or.inr rfl) (pe_make t.M_Log (ok_Log_init t) (hr.mono (by decide)) (by rfl) t.m_Log t.b_Log_init .nil pass0 (pa_cons (pv 0) (pa_cons (pv 1) pa_nil))))
      (pss_cons (ps_for PassesOwn.never rfl (pi_range2 (by rfl) t.n_range (pa_cons pe_int (pa_cons (pe_op op_add (pe_meth0 (pv 2) t.cl_Log t.M_Log_last (ok_Log_last t) (hr.mono (by decide)) t.b_Log_last .nil pass0) pe_int) pa_nil))) (pg_name (i := 3) sc_ring.nd rfl (by first | exact Or.inl rfl | exact Or.inr rfl)) (pss_one (ps_for PassesOwn.never rfl (pi_range1 (by rfl) t.n_range (pa_cons (pv 3) pa_nil)) (pg_name (i := 4) sc_ring.nd rfl (by first | exact Or.inl rfl | exact Or.inr rfl)) (pss_one (ps_if (pt_val (pe_meth (pv 2) t.cl_Log t.M_Log_same (ok_Log_same t) (hr.mono (by decide)) t.b_Log_same .nil pass0 (pa_cons (pv 4) (pa_cons (pv 3) pa_nil)))) (pss_one (ps_ret (pe_tup (pa_cons pe_str (pa_cons (pv 4) (pa_cons (pv 3) pa_nil)))))) pss_nil)))))
      (pss_one (ps_ret pe_non))))), ?_⟩
    refine ⟨_, rfl, F, m, M, R, S, rfl, sF, hm, hM, fun Ha ga => ?_⟩
    refine ⟨_, rfl, _, rfl, fun y dy ny ndy ney => ?_⟩
    have g1 := ga.own (o := .own y) ndy
    have ny2 : (upd Ha dy (.own y)) y = none := by rw [upd_ne ney.symm]; exact ny
    have g2 := g1.own (o := .ins t.C_Log dy []) ny2
    have hy : H y = none := ga.th _ ny
    have fy : F y = none := ga.fh.free ny
    refine ⟨F, y, dy, m, M, R, S, n, rfl, upd_same, fy, g2.fh, hm, hM, hn, fun F3 H3 Ra Pa Ta k c cs g3 fy3 go hh x => ⟨rfl, ?_⟩⟩
    have g13 := g2.thn g3 fun c z => .inr (by rw [show c = y from z]; exact hy)
    obtain ⟨dx, ho⟩ := x.ob
    have gle := go.le
    have lcs := hh.1
    have kn : (cs.length : Int) - 1 - (if (decide (entOf M c = Ent.emp)) = true then 1 else 0) + 1 = known M k c := by
      unfold known
      rw [lcs]
      by_cases e : entOf M c = Ent.emp
      · rw [if_pos (decide_eq_true e), if_pos e]; omega
      · rw [if_neg (by rw [decide_eq_false e]; decide), if_neg e]; omega
    have kle : known M k c ≤ k + 1 := by unfold known; split <;> omega
    refine ⟨_, rfl, y, dx, _, rfl, ho, Log_no (by decide +kernel) (by decide +kernel) (by decide +kernel) (by decide +kernel), F3, y, Ra, Pa, Ta, cs, _, rfl, g3.fh, x, _, _, rfl, rfl, ?_⟩
    refine ⟨1, (known M k c : Int), by rw [← kn], ⟨by decide, by decide, by omega, by omega⟩, ?_⟩
    have sat : ∀ {f : Nat} {a : Cfg}, cs[f]? = some a → stepsC M f = some a := fun h => hh.2 _ _ h
    have bad : ∀ {f l : Nat} {a b : Cfg}, cs[f]? = some a → cs[l]? = some b → sameC a b = false → ¬ SameAt M f l := fun ha hb e ⟨a', b', h1, h2, h3⟩ => by
      rw [sat ha] at h1
      rw [sat hb] at h2
      cases h1; cases h2
      rw [e] at h3; cases h3
    refine for_range (lo := 1) (n := ((known M k c : Int) - 1).toNat) (fun i σ G => ∃ v3 v4 : Option V, σ = [some m, some (.int n), some (.ref y), v3, v4] ∧ H3 = G ∧ ∀ f l, f < l → l < i + 1 → ¬ SameAt M f l) ⟨none, none, rfl, rfl, fun f l h1 h2 => by omega⟩ ?_ ?_
    · rintro i σ G hi ⟨v3, v4, rfl, rfl, hno⟩
      have ik : i + 1 < known M k c := by omega
      have hci : cs[i + 1]? = some _ := List.getElem?_eq_getElem (by omega)
      refine ⟨_, rfl, (1 + (i : Int)), rfl, by omega, by omega, for_range (lo := 0) (n := (1 + (i : Int)).toNat) (fun j σ G => ∃ v4 : Option V, σ = [some m, some (.int n), some (.ref y), some (.int (1 + i)), v4] ∧ H3 = G ∧ ∀ f, f < j → ¬ SameAt M f (i + 1)) ⟨v4, rfl, rfl, fun f h => by omega⟩ ?_ ?_⟩
      · rintro j σ G hj ⟨v4, rfl, rfl, hn2⟩
        have jl : j < i + 1 := by omega
        have hcj : cs[j]? = some _ := List.getElem?_eq_getElem (by omega)
        refine ⟨_, rfl, y, dx, _, rfl, ho, Log_no (by decide +kernel) (by decide +kernel) (by decide +kernel) (by decide +kernel), _, rfl, _, rfl, F3, y, Ra, Pa, Ta, cs, _, j, i + 1, _, _, by show [V.ref y, V.int (0 + (j : Int)), V.int (1 + (i : Int))] = [V.ref y, V.int ((j : Nat) : Int), V.int ((i + 1 : Nat) : Int)]; rw [show (0 : Int) + (j : Int) = ((j : Nat) : Int) by omega, show (1 : Int) + (i : Int) = ((i + 1 : Nat) : Int) by omega], g3.fh, x, hcj, hci, _, rfl, ?_⟩
        refine ite2 (fun c1 => ?_) (fun c1 => ?_)
        · refine ⟨_, rfl, _, rfl, three_le, fun u nu => ?_⟩
          have gu := g13.new (o := .tup [.str tRing.x, .int (0 + j), .int (1 + i)]) nu
          refine q _ _ (.ref u) k c (some (j, i + 1)) gu go ⟨jl, ik, ⟨_, _, sat hcj, sat hci, c1⟩, fun f' l' h1 h2 => ?_⟩ ⟨u, _, _, _, rfl, upd_same, rfl, by show V.int (0 + j) = V.int j; rw [Int.zero_add], by show V.int (1 + i) = V.int ((i + 1 : Nat) : Int); congr 1; omega⟩
          rcases h2 with h2 | ⟨rfl, h2⟩
          · exact hno f' l' h1 h2
          · exact hn2 f' h2
        · refine ⟨_, rfl, rfl, fun f h => ?_⟩
          have e : sameC cs[j] cs[i + 1] = false := by
            cases z : sameC cs[j] cs[i + 1] with
            | false => rfl
            | true => exact absurd z c1
          rcases Nat.lt_succ_iff_lt_or_eq.mp h with h | rfl
          · exact hn2 f h
          · exact bad hcj hci e
      · rintro σ G ⟨v4, rfl, rfl, hn2⟩
        refine ⟨_, _, rfl, rfl, fun f l h1 h2 => ?_⟩
        rcases Nat.lt_succ_iff_lt_or_eq.mp h2 with h2 | rfl
        · exact hno f l h1 h2
        · exact hn2 f (by omega)
    · rintro σ G ⟨v3, v4, rfl, rfl, hno⟩
      exact q F3 _ .non k c none g13 go (fun f l h1 h2 => hno f l h1 (by omega)) rfl
/-! ### the keys of a dict of ints -/
def dk (l : List PI) : List Int := l.map (·.a)
theorem dI_keys (l : List PI) : ((dI l).map fun kv => kV kv.1) = (dk l).map V.int := by
  unfold dI dk
  rw [List.map_map, List.map_map]; rfl
/-- what is read at a place -/
def gz (l : List PI) (x : Int) : Int := (look l x).getD 0
/-! ### drifts -/
theorem gz_out {l : List PI} {x : Int} (h : x ∉ dk l) : gz l x = 0 := by
  unfold gz
  rw [look_none.mpr h]; rfl
theorem drift_all {P : Int → Prop} {li lj : List PI} {d : Int} (h : ∀ y ∈ dk li ++ (dk lj).map (fun z => z - d), P y → gz li y = gz lj (y + d)) : ∀ x, P x → gz li x = gz lj (x + d) := by
  intro x p
  by_cases m : x ∈ dk li
  · exact h x (List.mem_append_left _ m) p
  · by_cases m' : x + d ∈ dk lj
    · exact h x (List.mem_append_right _ (List.mem_map.mpr ⟨x + d, m', by omega⟩)) p
    · rw [gz_out m, gz_out m']
/-- led along, from what is read on -/
def DriftLH (a b : Cfg) (lo hi : Int) : Prop := a.r = b.r ∧ a.s ≠ b.s ∧ ∀ x, ((a.s < b.s ∧ lo ≤ x) ∨ (b.s < a.s ∧ x ≤ hi)) → gz a.l x = gz b.l (x + (b.s - a.s))
theorem LogAt.gr {C : Addr} {F H F' H' : Hp} {lg R P T : Addr} {cs : List Cfg} {b : Bool} {mu : Addr → Prop} (x : LogAt C F H lg R P T cs b) (g : Gr mu F H F' H') (m : ¬ mu lg) : LogAt C F' H' lg R P T cs b := by
  obtain ⟨⟨dx, ho⟩, h1, h2, ts, h3, h4⟩ := x
  exact ⟨⟨dx, g.fr _ _ ho m⟩, g.ff _ _ h1, g.ff _ _ h2, ts, g.ff _ _ h3, h4.up g.ff⟩
theorem gz_rel {l l' : List PI} (h : ZRel l l') (x : Int) : gz l x = gz l' x := h.lk x
def sp_Log_drifts (C : Addr) : Sp := fun vs H Q _ => ∃ (F : Hp) (g Ra Pa Ta : Addr) (cs : List Cfg) (b : Bool) (i j : Nat) (ci cj : Cfg) (lo hi : Int), vs = [.ref g, .int i, .int j, .int lo, .int hi] ∧ Same F H ∧ LogAt C F H g Ra Pa Ta cs b ∧ cs[i]? = some ci ∧ cs[j]? = some cj ∧ ci.l.length ≤ 100000 ∧ cj.l.length ≤ 100000 ∧
  ∀ (F' H' : Hp) (r : Bool), Gr mu0 F H F' H' → (r = true ↔ DriftLH ci cj lo hi) → Q (.bl r) H'
theorem ok_Log_drifts (t : Tx K mg) : FnOk P w K mg base CX0 1 t.a_Log_drifts t.fd_Log_drifts ["self", "one", "other", "low", "high"] (sp_Log_drifts t.C_Log) := by
  refine t.F_Log_drifts.ok sc_Log_drifts (fun vs H Q E h => ?_) (fun cdv A outer s H vs Q E hr h => ?_)
  · obtain ⟨F, g, Ra, Pa, Ta, cs, b, i, j, ci, cj, lo, hi, rfl, _⟩ := h
    rfl
  · obtain ⟨F, g, Ra, Pa, Ta, cs, b, i, j, ci, cj, lo, hi, rfl, sF, x, hi', hj, li1, lj1, q⟩ := h
    refine ⟨_, (pss_cons (ps_set (i := 5) sc_Log_drifts.nd rfl (by first | exact Or.inl rfl | exact Or.inr rfl) (pe_op op_sub (pe_ix ix_list (pe_fld (pv 0) rfl) (pv 2) (fun _ _ => rfl)) (pe_ix ix_list (pe_fld (pv 0) rfl) (pv 1) (fun _ _ => rfl))))
      (pss_cons (ps_if (PW.pt (pw_or (pt_cmpR op_ne (pe_ix ix_list (pe_fld (pv 0) rfl) (pv 1) (fun _ _ => rfl)) (pe_ix ix_list (pe_fld (pv 0) rfl) (pv 2) (fun _ _ => rfl)) (nomark _)) (pw_or1 (pt_cmpR op_eq (pv 5) pe_int (nomark _))))) (pss_one (ps_ret pe_bl)) pss_nil)
      (pss_cons (ps_set (i := 6) sc_Log_drifts.nd rfl (by first | exact Or.inl rfl | exact Or.inr rfl) (pe_ix ix_list (pe_fld (pv 0) rfl) (pv 1) (fun _ _ => rfl)))
      (pss_cons (ps_set (i := 7) sc_Log_drifts.nd rfl (by first | exact Or.inl rfl | exact Or.inr rfl) (pe_ix ix_list (pe_fld (pv 0) rfl) (pv 2) (fun _ _ => rfl)))
      (pss_cons (ps_for PassesOwn.never rfl (pi_list (pe_op op_cat (pe_callTy (T := "list") (call_listD rfl) (by rfl) t.n_list (by decide +kernel) (pa_cons (pv 6) pa_nil)) (pe_lock (pe_lc (own := [("place", 8)]) (g := gName 8) (tt := tYes) rfl sc_Log_drifts.nd (pi_keys (pv 7)) (blkOk_by (N := N_Log_drifts) (sc := defScope s_Log_drifts) (by decide +kernel)) (fun _ _ _ _ _ => (pg_name (i := 8) sc_Log_drifts.nd rfl (by first | exact Or.inl rfl | exact Or.inr rfl))) (fun _ _ _ _ _ => pts_nil) (fun _ _ _ _ _ => (pe_op op_sub (pv 8) (pv 5))))))) (pg_name (i := 8) sc_Log_drifts.nd rfl (by first | exact Or.inl rfl | exact Or.inr rfl)) (pss_cons (ps_set (i := 9) sc_Log_drifts.nd rfl (by first | exact Or.inl rfl | exact Or.inr rfl) (pe_or (pe_and (pe_cmpR op_gt (pv 5) pe_int (nomark _)) (pe_one (pe_cmpR op_ge (pv 8) (pv 3) (nomark _)))) (pe_one (pe_and (pe_cmpR op_lt (pv 5) pe_int (nomark _)) (pe_one (pe_cmpR op_le (pv 8) (pv 4) (nomark _)))))))
      (pss_one (ps_if (PW.pt (pw_and (pt_val (pv 9)) (pw_and1 (pt_cmpR op_ne (pe_dget2 (hu_of hr) (pv 6) (pv 8) pe_int ⟨by rfl, by rfl, by rfl, by rfl⟩) (pe_dget2 (hu_of hr) (pv 7) (pe_op op_add (pv 8) (pv 5)) pe_int ⟨by rfl, by rfl, by rfl, by rfl⟩) (nomark _))))) (pss_one (ps_ret pe_bl)) pss_nil))))
      (pss_one (ps_ret pe_bl))))))), ?_⟩
    obtain ⟨dx, ho⟩ := x.ob
    obtain ⟨ts, hT, sa⟩ := x.st
    have hR := SqL.of (K := K) (sF _ _ x.rw)
    have hP := SqL.of (K := K) (sF _ _ x.pl)
    have hT' := SqL.of (K := K) (sF _ _ hT)
    have g0 : Gr mu0 F H F H := Gr.refl sF
    have atR : ∀ {i : Nat} {c : Cfg}, cs[i]? = some c → (cs.map fun c => V.int c.r)[i]? = some (.int c.r) := fun h => by rw [List.getElem?_map, h]; rfl
    have atP : ∀ {i : Nat} {c : Cfg}, cs[i]? = some c → (cs.map fun c => V.int c.s)[i]? = some (.int c.s) := fun h => by rw [List.getElem?_map, h]; rfl
    have no : ∀ {a b : Int}, a ≠ b → decide (V.int a = V.int b) = false := fun h => decide_eq_false fun z => h (V.int.inj z)
    have yes' : ∀ {a b : Int}, (!decide (V.int a = V.int b)) = true → ¬ a = b := fun h z => by rw [z, decide_eq_true rfl] at h; exact absurd h (by decide)
    have not' : ∀ {a b : Int}, ¬ (!decide (V.int a = V.int b)) = true → a = b := fun {a b} h => by
      by_cases z : a = b
      · exact z
      · rw [no z] at h; exact absurd rfl h
    -- by = self.places[other] - self.places[one]
    refine ⟨_, rfl, g, t.C_Log, dx, _, _, rfl, ho, t.cl_Log, t.nA_Log_places, Log_get_places, _, rfl, Pa, _, _, _, rfl, rfl, hP, atI_nat (j := j) (atP hj), ?_⟩
    refine ⟨_, rfl, g, t.C_Log, dx, _, _, rfl, ho, t.cl_Log, t.nA_Log_places, Log_get_places, _, rfl, Pa, _, _, _, rfl, rfl, hP, atI_nat (j := i) (atP hi'), _, _, rfl, rfl, ?_⟩
    -- if self.rows[one] != self.rows[other] or by == 0
    refine ⟨_, rfl, g, t.C_Log, dx, _, _, rfl, ho, t.cl_Log, t.nA_Log_rows, Log_get_rows, _, rfl, Ra, _, _, _, rfl, rfl, hR, atI_nat (j := i) (atR hi'), ?_⟩
    refine ⟨_, rfl, g, t.C_Log, dx, _, _, rfl, ho, t.cl_Log, t.nA_Log_rows, Log_get_rows, _, rfl, Ra, _, _, _, rfl, rfl, hR, atI_nat (j := j) (atR hj), rfl, _, rfl, ?_⟩
    refine ite2 (fun c => ?_) (fun c => ?_)
    · exact ifT rfl (q F H false g0 ⟨(fun z => nomatch z), fun z => absurd z.1 (yes' c)⟩)
    have er := not' c
    refine ⟨_, rfl, rfl, _, rfl, ?_⟩
    refine ite2 (fun c => ?_) (fun c => ?_)
    · have z := V.int.inj (of_decide_eq_true c)
      exact q F H false g0 ⟨(fun z => nomatch z), fun y => absurd (show ci.s = cj.s by omega) y.2.1⟩
    have es : ci.s ≠ cj.s := fun z => c (decide_eq_true (by show V.int (cj.s - ci.s) = V.int 0; rw [z, Int.sub_self]))
    obtain ⟨vi, hvi, di, li, rfl, hdi, zi⟩ := sa.get hi'
    obtain ⟨vj, hvj, dj, lj, rfl, hdj, zj⟩ := sa.get hj
    have lli := zi.len
    have llj := zj.len
    -- ahead, behind
    refine ⟨_, rfl, g, t.C_Log, dx, _, _, rfl, ho, t.cl_Log, t.nA_Log_strips, Log_get_strips, _, rfl, Ta, _, _, _, rfl, rfl, hT', atI_nat (j := i) hvi, ?_⟩
    refine ⟨_, rfl, g, t.C_Log, dx, _, _, rfl, ho, t.cl_Log, t.nA_Log_strips, Log_get_strips, _, rfl, Ta, _, _, _, rfl, rfl, hT', atI_nat (j := j) hvj, ?_⟩
    -- list(ahead) + [place - by for place in behind]
    refine ⟨_, rfl, di, _, rfl, .inl (sF _ _ hdi), fun p1 np1 => ?_⟩
    rw [dI_keys]
    have g1 := g0.own (o := .lst ((dk li).map V.int)) np1
    have hp1 : (upd H p1 (.lst ((dk li).map V.int))) p1 = some (.lst ((dk li).map V.int)) := upd_same
    generalize upd H p1 (.lst ((dk li).map V.int)) = H1 at g1 hp1
    refine ⟨dj, _, g1.fh _ _ hdj, trivial, fun od => ?_⟩
    have sL := lock_in (d := dj) (o := .frz od (.dK (dI lj))) g1.fh
    have hdB : (upd H1 dj (.frz od (.dK (dI lj)))) dj = some (.frz od (.dK (dI lj))) := upd_same
    have dl : (dI lj).length = lj.length := by unfold dI; rw [List.length_map]
    have gL : Gr mu0 _ (upd H1 dj (.frz od (.dK (dI lj)))) _ (upd H1 dj (.frz od (.dK (dI lj)))) := Gr.refl sL
    refine ⟨_, rfl, dj, od, rfl, .inl ⟨_, hdB, fun D nD => lc_it walk_keys (fun k G => Gr mu0 (fun c => if c = dj then none else F c) (upd H1 dj (.frz od (.dK (dI lj)))) (fun c => if c = dj then none else F c) G ∧ Ow (upd H1 dj (.frz od (.dK (dI lj)))) (fun c => if c = dj then none else F c) G D (.lst (((dk (lj.take k)).map fun z => z - (cj.s - ci.s)).map V.int))) ⟨gL.own nD, Ow.mk1 gL nD⟩ (fun k G _ ⟨g, _⟩ => g.fr _ _ hdB fun z => z) ?_ ?_⟩⟩
    · rintro k y G G' hk ⟨gk, wk⟩ ⟨rfl, kk, v, hkv, rfl⟩
      rw [dl] at hk
      rw [dI_get hk] at hkv
      cases hkv
      refine ⟨rfl, yes ⟨_, rfl, _, rfl, _, _, rfl, rfl, _, wk.h, lt_size (by rw [List.length_map, List.length_map]; unfold dk; rw [List.length_map, List.length_take]; omega), gk.set wk.f (.inl wk.n), ?_⟩⟩
      have e : ((dk (lj.take (k + 1))).map fun z => z - (cj.s - ci.s)).map V.int = ((dk (lj.take k)).map fun z => z - (cj.s - ci.s)).map V.int ++ [V.int (lj[k].a - (cj.s - ci.s))] := by
        unfold dk
        rw [List.take_add_one, List.getElem?_eq_getElem hk, List.map_append, List.map_append, List.map_append]; rfl
      rw [e]
      exact wk.set
    rintro G ⟨gk, wk⟩
    rw [dl, List.take_length] at wk
    obtain ⟨h1, h2, h3⟩ := lock_out g1.fh (g1.fh _ _ hdj) gk
    refine ⟨h1, ?_⟩
    have Dj : D ≠ dj := ne_of wk.h h1 (by intro z; cases z)
    have hDz := (upd_ne (o := .dK (dI lj)) Dj).trans wk.h
    have g2 := g1.trans h3
    have hp2 := h3.fr _ _ hp1 fun z => z
    have hdi2 := g2.fh _ _ (g2.ff _ _ hdi)
    have hdj2 := g2.fh _ _ (g2.ff _ _ hdj)
    generalize upd G dj (.dK (dI lj)) = H2 at g2 hp2 hDz hdi2 hdj2
    generalize (fun c => if c = dj then F dj else (fun c => if c = dj then none else F c) c) = F2 at g2
    refine ⟨p1, D, _, _, rfl, rfl, hp2, hDz, le_size (by rw [List.length_map, List.length_map, List.length_map]; unfold dk; rw [List.length_map, List.length_map]; omega), fun p3 np3 => ?_⟩
    rw [← List.map_append]
    have g3 := g2.own (o := .lst ((dk li ++ (dk lj).map fun z => z - (cj.s - ci.s)).map V.int)) np3
    have hp3 : (upd H2 p3 (.lst ((dk li ++ (dk lj).map fun z => z - (cj.s - ci.s)).map V.int))) p3 = some (.lst ((dk li ++ (dk lj).map fun z => z - (cj.s - ci.s)).map V.int)) := upd_same
    have hdi3 := ln (u := .lst ((dk li ++ (dk lj).map fun z => z - (cj.s - ci.s)).map V.int)) np3 hdi2
    have hdj3 := ln (u := .lst ((dk li ++ (dk lj).map fun z => z - (cj.s - ci.s)).map V.int)) np3 hdj2
    generalize upd H2 p3 (.lst ((dk li ++ (dk lj).map fun z => z - (cj.s - ci.s)).map V.int)) = H3 at g3 hp3 hdi3 hdj3
    generalize eys : dk li ++ (dk lj).map (fun z => z - (cj.s - ci.s)) = ys at hp3
    refine ⟨p3, rfl, ⟨_, SqL.of hp3⟩, for_list (K := K) (a := p3) (xs := ys.map V.int) (fun k σ G => ∃ v8 v9 : Option V, σ = [some (.ref g), some (.int i), some (.int j), some (.int lo), some (.int hi), some (.int (cj.s - ci.s)), some (.ref di), some (.ref dj), v8, v9] ∧ H3 = G ∧ ∀ (m : Nat) y, m < k → ys[m]? = some y → ((ci.s < cj.s ∧ lo ≤ y) ∨ (cj.s < ci.s ∧ y ≤ hi)) → gz li y = gz lj (y + (cj.s - ci.s))) ⟨none, none, rfl, rfl, fun m y h => absurd h (Nat.not_lt_zero _)⟩ (fun k σ G _ ⟨_, _, _, e, _⟩ => e ▸ SqL.of hp3) ?_ ?_⟩
    · rintro k y σ G hk ⟨v8, v9, rfl, rfl, hall⟩
      obtain ⟨y, rfl, hky⟩ := inr_int hk
      by_cases hb : 0 < cj.s - ci.s
      case' pos =>
        refine ⟨_, rfl, _, _, rfl, rfl, _, rfl, ifT (decide_eq_true hb) ?_⟩
        refine ⟨_, rfl, _, rfl, _, _, rfl, rfl, _, rfl, ?_⟩
        refine ite2 (fun c => ?A) (fun c => ?B)
      case' A =>
        have hw : true = true ↔ ((ci.s < cj.s ∧ lo ≤ y) ∨ (cj.s < ci.s ∧ y ≤ hi)) := ⟨fun _ => .inl ⟨by omega, of_decide_eq_true c⟩, fun _ => rfl⟩
      case' B =>
        have c : ¬ lo ≤ y := fun z => c (decide_eq_true z)
        have hw : false = true ↔ ((ci.s < cj.s ∧ lo ≤ y) ∨ (cj.s < ci.s ∧ y ≤ hi)) := ⟨(fun z => nomatch z), fun z => by omega⟩
        refine ⟨_, rfl, _, _, rfl, rfl, _, rfl, ifF (decide_eq_false (by omega)) ?_⟩
      case' neg =>
        refine ⟨_, rfl, _, _, rfl, rfl, _, rfl, ifF (decide_eq_false hb) ?_⟩
        refine ⟨_, rfl, ifF rfl ?_⟩
        refine ⟨_, rfl, _, _, rfl, rfl, _, rfl, ifT (decide_eq_true (show cj.s - ci.s < 0 by omega)) ?_⟩
        refine ⟨_, rfl, _, rfl, _, _, rfl, rfl, ?_⟩
        have hw : decide (y ≤ hi) = true ↔ ((ci.s < cj.s ∧ lo ≤ y) ∨ (cj.s < ci.s ∧ y ≤ hi)) := ⟨fun z => .inr ⟨by omega, of_decide_eq_true z⟩, fun z => decide_eq_true (by omega)⟩
      all_goals
        refine ⟨_, rfl, _, rfl, ?_⟩
        refine ite2 (fun cw => ?_) (fun cw => ?_)
        · refine ⟨_, rfl, di, rfl, .inl ⟨_, .inl hdi3⟩, _, rfl, _, DGet.k (k := Sum.inl y) hdi3, ?_⟩
          rw [dI_val, getD_int]
          refine ⟨_, rfl, dj, rfl, .inl ⟨_, .inl hdj3⟩, _, rfl, _, rfl, _, _, rfl, rfl, _, DGet.k (k := Sum.inl (y + (cj.s - ci.s))) hdj3, ?_⟩
          rw [dI_val, getD_int]
          refine ⟨rfl, _, rfl, ?_⟩
          refine ite2 (fun c => ?_) (fun c => ?_)
          · refine q _ _ false g3 ⟨(fun z => nomatch z), fun z => ?_⟩
            have e := z.2.2 y (hw.mp cw)
            rw [gz_rel zi, gz_rel zj] at e
            exact absurd e (yes' c)
          · refine ⟨_, _, rfl, rfl, fun m z hm hz hc => ?_⟩
            rcases Nat.lt_succ_iff_lt_or_eq.mp hm with hm | rfl
            · exact hall m z hm hz hc
            · rw [hky] at hz
              cases hz
              exact not' c
        · refine ⟨_, _, rfl, rfl, fun m z hm hz hc => ?_⟩
          rcases Nat.lt_succ_iff_lt_or_eq.mp hm with hm | rfl
          · exact hall m z hm hz hc
          · rw [hky] at hz
            cases hz
            exact absurd (hw.mpr hc) cw
    · rintro σ G ⟨v8, v9, rfl, rfl, hall⟩
      rw [List.length_map] at hall
      refine q _ _ true g3 ⟨fun _ => ⟨er, es, ?_⟩, fun _ => rfl⟩
      intro x hx
      rw [gz_rel zi, gz_rel zj]
      refine drift_all (P := fun y => (ci.s < cj.s ∧ lo ≤ y) ∨ (cj.s < ci.s ∧ y ≤ hi)) (fun y hy hc => ?_) x hx
      rw [eys] at hy
      obtain ⟨m, hm⟩ := List.getElem?_of_mem hy
      exact hall m y (List.getElem?_eq_some_iff.mp hm).1 hm hc
/-! ### the first two moments: the least last one, of these the least first one -/
def FirstOf (P : Nat → Nat → Prop) (K : Nat) : Option (Nat × Nat) → Prop
  | none => ∀ f l, f < l → l < K → ¬ P f l
  | some (f, l) => f < l ∧ l < K ∧ P f l ∧ ∀ f' l', f' < l' → (l' < l ∨ (l' = l ∧ f' < f)) → ¬ P f' l'
theorem FirstOf.uniq {P : Nat → Nat → Prop} {K : Nat} : ∀ {o o' : Option (Nat × Nat)}, FirstOf P K o → FirstOf P K o' → o = o'
  | none, none, _, _ => rfl
  | none, some (f, l), a, ⟨h1, h2, h3, _⟩ => (a f l h1 h2 h3).elim
  | some (f, l), none, ⟨h1, h2, h3, _⟩, b => (b f l h1 h2 h3).elim
  | some (f, l), some (f', l'), ⟨h1, h2, h3, h4⟩, ⟨k1, k2, k3, k4⟩ => by
    have a : ¬ (l' < l ∨ (l' = l ∧ f' < f)) := fun z => h4 f' l' k1 z k3
    have b : ¬ (l < l' ∨ (l = l' ∧ f < f')) := fun z => k4 f l h1 z h3
    have e1 : l = l' := by omega
    subst e1
    have e2 : f = f' := by omega
    rw [e2]
/-- the least place read from one moment up to another; the greatest -/
def LoM (M : Mach) (f l : Nat) (x : Int) : Prop := (∃ i c, f ≤ i ∧ i < l ∧ stepsC M i = some c ∧ c.s = x) ∧ ∀ i c, f ≤ i → i < l → stepsC M i = some c → x ≤ c.s
def HiM (M : Mach) (f l : Nat) (x : Int) : Prop := (∃ i c, f ≤ i ∧ i < l ∧ stepsC M i = some c ∧ c.s = x) ∧ ∀ i c, f ≤ i → i < l → stepsC M i = some c → c.s ≤ x
theorem LoM.one {M : Mach} {f : Nat} {c : Cfg} (h : stepsC M f = some c) : LoM M f (f + 1) c.s := by
  refine ⟨⟨f, c, Nat.le_refl _, Nat.lt_succ_self _, h, rfl⟩, fun i d h1 h2 h3 => ?_⟩
  rw [show i = f by omega, h] at h3
  cases h3
  exact Int.le_refl _
theorem HiM.one {M : Mach} {f : Nat} {c : Cfg} (h : stepsC M f = some c) : HiM M f (f + 1) c.s := by
  refine ⟨⟨f, c, Nat.le_refl _, Nat.lt_succ_self _, h, rfl⟩, fun i d h1 h2 h3 => ?_⟩
  rw [show i = f by omega, h] at h3
  cases h3
  exact Int.le_refl _
theorem LoM.step {M : Mach} {f f' l : Nat} {x : Int} {c : Cfg} (h : LoM M f' l x) (hc : stepsC M f = some c) (h1 : f ≤ f') (h2 : f' ≤ f + 1) (h3 : f < l) : LoM M f l (if c.s < x then c.s else x) := by
  obtain ⟨⟨i, d, a1, a2, a3, a4⟩, b⟩ := h
  refine ⟨?_, fun j e j1 j2 j3 => ?_⟩
  · split
    · exact ⟨f, c, Nat.le_refl _, h3, hc, rfl⟩
    · exact ⟨i, d, by omega, a2, a3, a4⟩
  · by_cases z : j = f
    · rw [z, hc] at j3
      cases j3
      split <;> omega
    · have := b j e (by omega) j2 j3
      split <;> omega
theorem HiM.step {M : Mach} {f f' l : Nat} {x : Int} {c : Cfg} (h : HiM M f' l x) (hc : stepsC M f = some c) (h1 : f ≤ f') (h2 : f' ≤ f + 1) (h3 : f < l) : HiM M f l (if c.s > x then c.s else x) := by
  obtain ⟨⟨i, d, a1, a2, a3, a4⟩, b⟩ := h
  refine ⟨?_, fun j e j1 j2 j3 => ?_⟩
  · split
    · exact ⟨f, c, Nat.le_refl _, h3, hc, rfl⟩
    · exact ⟨i, d, by omega, a2, a3, a4⟩
  · by_cases z : j = f
    · rw [z, hc] at j3
      cases j3
      split <;> omega
    · have := b j e (by omega) j2 j3
      split <;> omega
def DriftAt (M : Mach) (f l : Nat) : Prop := ∃ a b, stepsC M f = some a ∧ stepsC M l = some b ∧ a.r = b.r ∧ a.s ≠ b.s ∧ ∀ x,
  ((a.s < b.s ∧ ∃ i c, f ≤ i ∧ i < l ∧ stepsC M i = some c ∧ c.s ≤ x) ∨ (b.s < a.s ∧ ∃ i c, f ≤ i ∧ i < l ∧ stepsC M i = some c ∧ x ≤ c.s)) → gz a.l x = gz b.l (x + (b.s - a.s))
theorem LoM.le {M : Mach} {f l : Nat} {lo x : Int} (h : LoM M f l lo) : (∃ i c, f ≤ i ∧ i < l ∧ stepsC M i = some c ∧ c.s ≤ x) ↔ lo ≤ x := by
  constructor
  · rintro ⟨i, c, a, b, d, e⟩
    have := h.2 i c a b d; omega
  · intro e
    obtain ⟨⟨i, c, a, b, d, z⟩, _⟩ := h
    exact ⟨i, c, a, b, d, by omega⟩
theorem HiM.le {M : Mach} {f l : Nat} {hi x : Int} (h : HiM M f l hi) : (∃ i c, f ≤ i ∧ i < l ∧ stepsC M i = some c ∧ x ≤ c.s) ↔ x ≤ hi := by
  constructor
  · rintro ⟨i, c, a, b, d, e⟩
    have := h.2 i c a b d; omega
  · intro e
    obtain ⟨⟨i, c, a, b, d, z⟩, _⟩ := h
    exact ⟨i, c, a, b, d, by omega⟩
theorem drift_iff {M : Mach} {f l : Nat} {a b : Cfg} {lo hi : Int} (ha : stepsC M f = some a) (hb : stepsC M l = some b) (h1 : LoM M f l lo) (h2 : HiM M f l hi) : DriftAt M f l ↔ DriftLH a b lo hi := by
  constructor
  · rintro ⟨a', b', e1, e2, h3, h4, h5⟩
    rw [ha] at e1; rw [hb] at e2
    cases e1; cases e2
    refine ⟨h3, h4, fun x hx => h5 x ?_⟩
    rw [h1.le, h2.le]
    exact hx
  · rintro ⟨h3, h4, h5⟩
    refine ⟨a, b, ha, hb, h3, h4, fun x hx => h5 x ?_⟩
    rw [h1.le, h2.le] at hx
    exact hx
abbrev PapR := Option (T3 TStr Int Int)
def tDrift : TStr := ⟨"drift", by decide +kernel⟩
def driftD : Option (Nat × Nat) → PapR
  | none => none
  | some (f, l) => some ⟨tDrift, f, l⟩
def sp_drift : Sp := fun vs H Q _ => ∃ (F : Hp) (m : V) (M : Mach) (R S n : Nat), vs = [m, .int n] ∧ Same F H ∧ Is F m M ∧ MOk M R S ∧ n ≤ 5000 ∧
  ∀ (F' H' : Hp) (v : V) (k : Nat) (c : Cfg) (o : Option (Nat × Nat)), Gr mu0 F H F' H' → Gone M n k c → FirstOf (DriftAt M) (known M k c) o → Is F' v (driftD o) → Q v H'
/-- the best of the moments looked at -/
def bestV : Option Nat → V
  | none => .non
  | some b => .int b
def BestOf (P : Nat → Prop) (f l : Nat) : Option Nat → Prop
  | none => ∀ g, f ≤ g → g < l → ¬ P g
  | some b => f ≤ b ∧ b < l ∧ P b ∧ ∀ g, f ≤ g → g < b → ¬ P g
theorem ok_drift (t : Tx K mg) : FnOk P w K mg base CX0 5 t.a_drift t.fd_drift ["machine", "most"] sp_drift := by
  refine t.F_drift.ok sc_drift (fun vs H Q E h => ?_) (fun cdv A outer s H vs Q E hr h => ?_)
  · obtain ⟨F, m, M, R, S, n, rfl, _⟩ := h
    rfl
  · obtain ⟨F, m, M, R, S, n, rfl, sF, hm, hM, hn, q⟩ := h
    refine ⟨_, (pss_cons (ps_expr (pe_call (ok_must_machine t) (hr.mono (by decide)) (by rfl) t.m_must_machine t.F_must_machine.kp t.b_must_machine .nil pass0 (pa_cons (pv 0) pa_nil)))
      (pss_cons (ps_set (i := 2) sc_drift.nd rfl (by first | exact Or.inl rfl | exact Or.inr rfl) (pe_make t.M_Log (ok_Log_init t) (hr.mono (by decide)) (by rfl) t.m_Log t.b_Log_init .nil pass0 (pa_cons (pv 0) (pa_cons (pv 1) pa_nil))))
      (pss_cons (ps_for PassesOwn.never rfl (pi_range2 (by rfl) t.n_range (pa_cons pe_int (pa_cons (pe_op op_add (pe_meth0 (pv 2) t.cl_Log t.M_Log_last (ok_Log_last t) (hr.mono (by decide)) t.b_Log_last .nil pass0) pe_int) pa_nil))) (pg_name (i := 3) sc_drift.nd rfl (by first | exact Or.inl rfl | exact Or.inr rfl)) (pss_cons (ps_set (i := 4) sc_drift.nd rfl (by first | exact Or.inl rfl | exact Or.inr rfl) (pe_ix ix_list (pe_fld (pv 2) rfl) (pe_op op_sub (pv 3) pe_int) (fun _ _ => rfl)))
      (pss_cons (ps_set (i := 5) sc_drift.nd rfl (by first | exact Or.inl rfl | exact Or.inr rfl) (pv 4))
      (pss_cons (ps_set (i := 6) sc_drift.nd rfl (by first | exact Or.inl rfl | exact Or.inr rfl) pe_non)
      (pss_cons (ps_for PassesOwn.never rfl (pi_range3 (by rfl) t.n_range (pa_cons (pe_op op_sub (pv 3) pe_int) (pa_cons (pe_un un_neg pe_int) (pa_cons (pe_un un_neg pe_int) pa_nil)))) (pg_name (i := 7) sc_drift.nd rfl (by first | exact Or.inl rfl | exact Or.inr rfl)) (pss_cons (ps_set (i := 4) sc_drift.nd rfl (by first | exact Or.inl rfl | exact Or.inr rfl) (pe_callB (id := "min") (call_min2 rfl) (by rfl) t.n_min (by decide +kernel) (pa_cons (pv 4) (pa_cons (pe_ix ix_list (pe_fld (pv 2) rfl) (pv 7) (fun _ _ => rfl)) pa_nil))))
      (pss_cons (ps_set (i := 5) sc_drift.nd rfl (by first | exact Or.inl rfl | exact Or.inr rfl) (pe_callB (id := "max") (call_max2 rfl) (by rfl) t.n_max (by decide +kernel) (pa_cons (pv 5) (pa_cons (pe_ix ix_list (pe_fld (pv 2) rfl) (pv 7) (fun _ _ => rfl)) pa_nil))))
      (pss_one (ps_if (pt_val (pe_meth (pv 2) t.cl_Log t.M_Log_drifts (ok_Log_drifts t) (hr.mono (by decide)) t.b_Log_drifts .nil pass0 (pa_cons (pv 7) (pa_cons (pv 3) (pa_cons (pv 4) (pa_cons (pv 5) pa_nil)))))) (pss_one (ps_set (i := 6) sc_drift.nd rfl (by first | exact Or.inl rfl | exact Or.inr rfl) (pv 7))) pss_nil)))))
      (pss_one (ps_if (pt_cmpR op_notN (pv 6) pe_non (nomark _)) (pss_one (ps_ret (pe_tup (pa_cons pe_str (pa_cons (pv 6) (pa_cons (pv 3) pa_nil)))))) pss_nil)))))))
      (pss_one (ps_ret pe_non))))), ?_⟩
    refine ⟨_, rfl, F, m, M, R, S, rfl, sF, hm, hM, fun Ha ga => ?_⟩
    refine ⟨_, rfl, _, rfl, fun y dy ny ndy ney => ?_⟩
    have g1 := ga.own (o := .own y) ndy
    have ny2 : (upd Ha dy (.own y)) y = none := by rw [upd_ne ney.symm]; exact ny
    have g2 := g1.own (o := .ins t.C_Log dy []) ny2
    have hy : H y = none := ga.th _ ny
    have fy : F y = none := ga.fh.free ny
    refine ⟨F, y, dy, m, M, R, S, n, rfl, upd_same, fy, g2.fh, hm, hM, hn, fun F3 H3 Ra Pa Ta k c cs g3 fy3 go hh x => ⟨rfl, ?_⟩⟩
    have g13 := g2.thn g3 fun c z => .inr (by rw [show c = y from z]; exact hy)
    obtain ⟨dx, ho⟩ := x.ob
    have gle := go.le
    have lcs := hh.1
    have kn : (cs.length : Int) - 1 - (if (decide (entOf M c = Ent.emp)) = true then 1 else 0) + 1 = known M k c := by
      unfold known
      rw [lcs]
      by_cases e : entOf M c = Ent.emp
      · rw [if_pos (decide_eq_true e), if_pos e]; omega
      · rw [if_neg (by rw [decide_eq_false e]; decide), if_neg e]; omega
    have kle : known M k c ≤ k + 1 := by unfold known; split <;> omega
    refine ⟨_, rfl, y, dx, _, rfl, ho, Log_no (by decide +kernel) (by decide +kernel) (by decide +kernel) (by decide +kernel), F3, y, Ra, Pa, Ta, cs, _, rfl, g3.fh, x, _, _, rfl, rfl, ?_⟩
    refine ⟨1, (known M k c : Int), by rw [← kn], ⟨by decide, by decide, by omega, by omega⟩, ?_⟩
    have sat : ∀ {f : Nat} {a : Cfg}, cs[f]? = some a → stepsC M f = some a := fun h => hh.2 _ _ h
    have atP : ∀ {i : Nat} {c : Cfg}, cs[i]? = some c → (cs.map fun c => V.int c.s)[i]? = some (.int c.s) := fun h => by rw [List.getElem?_map, h]; rfl
    have len : ∀ {f : Nat} {a : Cfg}, cs[f]? = some a → a.l.length ≤ 100000 := fun {f a} h => by
      have h1 := (stepsC_ok hM (sat h)).2
      have h2 := (List.getElem?_eq_some_iff.mp h).1
      omega
    refine for_range (lo := 1) (n := ((known M k c : Int) - 1).toNat) (fun i σ G => ∃ (F4 : Hp) (v3 v4 v5 v6 v7 : Option V), σ = [some m, some (.int n), some (.ref y), v3, v4, v5, v6, v7] ∧ Gr mu0 F3 H3 F4 G ∧ ∀ f l, f < l → l < i + 1 → ¬ DriftAt M f l) ⟨F3, none, none, none, none, none, rfl, Gr.refl g3.fh, fun f l h1 h2 => by omega⟩ ?_ ?_
    · rintro i σ G hi ⟨F4, v3, v4, v5, v6, v7, rfl, g4, hno⟩
      have ik : i + 1 < known M k c := by omega
      have hci : cs[i + 1]? = some _ := List.getElem?_eq_getElem (by omega)
      have hcp : cs[i]? = some _ := List.getElem?_eq_getElem (by omega)
      have x4 := x.gr g4 fun z => z
      obtain ⟨dx4, ho4⟩ := x4.ob
      refine ⟨_, rfl, y, t.C_Log, dx4, _, _, rfl, ho4, t.cl_Log, t.nA_Log_places, Log_get_places, _, rfl, _, _, rfl, rfl, Pa, _, _, _, rfl, rfl, SqL.of (g4.fh _ _ x4.pl), at_of (j := i) (by omega) (atP hcp), ?_⟩
      refine ⟨_, rfl, ?_⟩
      refine ⟨_, rfl, _, _, rfl, rfl, _, rfl, _, rfl, (1 + (i : Int)) - 1, -1, -1, _, rfl, RgC.neg (by omega) (by omega) (by omega) (by omega), for_rangeC (lo := (1 + (i : Int)) - 1) (c := -1) (n := ((1 + (i : Int)) - 1 - -1).toNat) (fun j σ G => ∃ (F5 : Hp) (f' : Nat) (lo hi : Int) (best : Option Nat) (v7 : Option V), σ = [some m, some (.int n), some (.ref y), some (.int (1 + (i : Int))), some (.int lo), some (.int hi), some (bestV best), v7] ∧ Gr mu0 F3 H3 F5 G ∧ i - j ≤ f' ∧ f' ≤ i + 1 - j ∧ LoM M f' (i + 1) lo ∧ HiM M f' (i + 1) hi ∧ BestOf (fun f => DriftAt M f (i + 1)) (i + 1 - j) (i + 1) best)
        ⟨F4, i, _, _, none, v7, rfl, g4, Nat.le_refl _, Nat.le_succ _, LoM.one (sat hcp), HiM.one (sat hcp), fun g h1 h2 => by omega⟩ ?_ ?_⟩
      · rintro j σ G hj ⟨F5, f', lo, hi, best, v7, rfl, g5, hf1, hf2, il, ih, hb⟩
        have jl : j < i + 1 := by omega
        have hcj : cs[i - j]? = some _ := List.getElem?_eq_getElem (by omega)
        have x5 := x.gr g5 fun z => z
        obtain ⟨dx5, ho5⟩ := x5.ob
        refine ⟨_, rfl, _, rfl, y, t.C_Log, dx5, _, _, rfl, ho5, t.cl_Log, t.nA_Log_places, Log_get_places, _, rfl, Pa, _, _, _, rfl, rfl, SqL.of (g5.fh _ _ x5.pl), at_of (j := i - j) (by omega) (atP hcj), _, _, rfl, ?_⟩
        refine ⟨_, rfl, _, rfl, y, t.C_Log, dx5, _, _, rfl, ho5, t.cl_Log, t.nA_Log_places, Log_get_places, _, rfl, Pa, _, _, _, rfl, rfl, SqL.of (g5.fh _ _ x5.pl), at_of (j := i - j) (by omega) (atP hcj), _, _, rfl, ?_⟩
        have il2 := il.step (sat hcj) (by omega) (by omega) (show i - j < i + 1 by omega)
        have ih2 := ih.step (sat hcj) (by omega) (by omega) (show i - j < i + 1 by omega)
        have e1 : (1 : Int) + (i : Int) - 1 + (j : Nat) * -1 = ((i - j : Nat) : Int) := by omega
        have e2 : (1 : Int) + (i : Int) = ((i + 1 : Nat) : Int) := by omega
        refine ⟨_, rfl, y, dx5, _, rfl, ho5, Log_no (by decide +kernel) (by decide +kernel) (by decide +kernel) (by decide +kernel), _, rfl, _, rfl, _, rfl, _, rfl, F5, y, Ra, Pa, Ta, cs, _, i - j, i + 1, _, _, _, _, by show [V.ref y, V.int (1 + (i : Int) - 1 + (j : Nat) * -1), V.int (1 + (i : Int)), _, _] = [V.ref y, V.int ((i - j : Nat) : Int), V.int ((i + 1 : Nat) : Int), _, _]; rw [e1, e2], g5.fh, x5, hcj, hci, len hcj, len hci, fun F6 H6 r g6 hr' => ⟨_, rfl, ?_⟩⟩
        have dd := drift_iff (sat hcj) (sat hci) il2 ih2
        have g56 := g5.trans g6
        refine ite2 (fun c1 => ?_) (fun c1 => ?_)
        · refine ⟨_, rfl, F6, i - j, _, _, some (i - j), some (V.int (1 + (i : Int) - 1 + (j : Nat) * -1)), ?_, g56, by omega, by omega, il2, ih2, by omega, by omega, dd.mpr (hr'.mp c1), fun g h1 h2 => by omega⟩
          show [some m, some (V.int n), some (V.ref y), some (V.int (1 + (i : Int))), _, _, some (V.int (1 + (i : Int) - 1 + (j : Nat) * -1)), _] = [some m, some (V.int n), some (V.ref y), some (V.int (1 + (i : Int))), _, _, some (V.int ((i - j : Nat) : Int)), _]
          rw [e1]
        · have nd : ¬ DriftAt M (i - j) (i + 1) := fun z => c1 (hr'.mpr (dd.mp z))
          refine ⟨F6, i - j, _, _, best, _, rfl, g56, by omega, by omega, il2, ih2, ?_⟩
          cases best with
          | none =>
            intro g h1 h2
            by_cases z : g = i - j
            · rw [z]; exact nd
            · exact hb g (by omega) h2
          | some b =>
            obtain ⟨b1, b2, b3, b4⟩ := hb
            refine ⟨by omega, b2, b3, fun g h1 h2 => ?_⟩
            by_cases z : g = i - j
            · rw [z]; exact nd
            · exact b4 g (by omega) h2
      · rintro σ G ⟨F5, f', lo, hi, best, v7, rfl, g5, hf1, hf2, il, ih, hb⟩
        rw [show i + 1 - ((1 : Int) + (i : Int) - 1 - -1).toNat = 0 by omega] at hb
        refine ⟨_, rfl, rfl, _, rfl, ?_⟩
        cases best with
        | none =>
          refine ifF (by show (!decide (V.non = V.non)) = false; rw [decide_eq_true rfl]; rfl) ?_
          refine ⟨F5, _, _, _, _, _, rfl, g5, fun f l h1 h2 => ?_⟩
          rcases Nat.lt_succ_iff_lt_or_eq.mp h2 with h2 | rfl
          · exact hno f l h1 h2
          · exact hb f (Nat.zero_le _) h1
        | some b =>
          obtain ⟨_, b2, b3, b4⟩ := hb
          refine ifT (by show (!decide (V.int b = V.non)) = true; rw [decide_eq_false (fun z => nomatch z)]; rfl) ?_
          refine ⟨_, rfl, _, rfl, three_le, fun u nu => ?_⟩
          have gu := (g13.trans g5).new (o := .tup [.str tDrift.x, .int b, .int (1 + i)]) nu
          refine q _ _ (.ref u) k c (some (b, i + 1)) gu go ⟨b2, ik, b3, fun f' l' h1 h2 => ?_⟩ ⟨u, _, _, _, rfl, upd_same, rfl, rfl, by show V.int (1 + i) = V.int ((i + 1 : Nat) : Int); congr 1; omega⟩
          rcases h2 with h2 | ⟨rfl, h2⟩
          · exact hno f' l' h1 h2
          · exact b4 f' (Nat.zero_le _) h2
    · rintro σ G ⟨F4, v3, v4, v5, v6, v7, rfl, g4, hno⟩
      exact q F4 G .non k c none (g13.trans g4) go (fun f l h1 h2 => hno f l h1 (by omega)) rfl
theorem cut_mid {xs : List V} {f l : Nat} (h1 : f ≤ l) (h2 : l ≤ xs.length) : cutV xs (some (f : Int)) (some (l : Int)) = (xs.drop f).take (l - f) := by
  unfold cutV
  have e1 : HT.sIx xs.length 0 (some (f : Int)) = f := by
    simp only [HT.sIx]
    rw [if_neg (by omega), Int.toNat_natCast]; omega
  have e2 : HT.sIx xs.length xs.length (some (l : Int)) = l := by
    simp only [HT.sIx]
    rw [if_neg (by omega), Int.toNat_natCast]; omega
  rw [e1, e2]
/-- the machine goes on from the setup behind l steps; it ends there -/
def Goes (M : Mach) (l : Nat) : Prop := ∃ c, stepsC M l = some c ∧ stepC M c ≠ none
def Ends (M : Mach) (l : Nat) : Prop := ∃ c, stepsC M l = some c ∧ stepC M c = none
theorem stepsC_le {M : Mach} {k : Nat} {c : Cfg} (h : stepsC M k = some c) : ∀ {l : Nat}, l ≤ k → ∃ c', stepsC M l = some c' := by
  induction k generalizing c with
  | zero =>
    intro l hl
    rw [show l = 0 by omega]
    exact ⟨c, h⟩
  | succ k ih =>
    intro l hl
    by_cases e : l = k + 1
    · rw [e]; exact ⟨c, h⟩
    · obtain ⟨b, hb, _⟩ := stepsC_back h
      exact ih hb (by omega)
theorem Goes.of {M : Mach} {l k : Nat} {c : Cfg} (h : stepsC M k = some c) (lk : l < k) : Goes M l := by
  obtain ⟨d, hd⟩ := stepsC_le h (show l + 1 ≤ k by omega)
  obtain ⟨b, hb, e⟩ := stepsC_back hd
  exact ⟨b, hb, by rw [e]; exact fun z => nomatch z⟩
theorem known_iff {M : Mach} {n k l : Nat} {c : Cfg} (go : Gone M n k c) (hl : l ≤ n) : l < known M k c ↔ Goes M l := by
  have sn : stepC M c = none ↔ entOf M c = Ent.emp := stepC_none
  constructor
  · intro h
    unfold known at h
    split at h
    · exact Goes.of go.stp h
    · rename_i ne
      by_cases e : l = k
      · rw [e]
        exact ⟨c, go.stp, fun z => ne (sn.mp z)⟩
      · exact Goes.of go.stp (by omega)
  · rintro ⟨d, hd, nd⟩
    unfold known
    by_cases lk : l < k
    · split <;> omega
    · have lk : k ≤ l := by omega
      have nn : l = k := by
        rcases go.fin with e | e
        · by_cases z : l = k
          · exact z
          · have := stepsC_end go.stp e (l - (k + 1))
            rw [show k + 1 + (l - (k + 1)) = l by omega, hd] at this
            cases this
        · omega
      rw [nn, go.stp] at hd
      cases hd
      rw [if_neg (fun z => nd (sn.mpr z))]
      omega
theorem ends_iff {M : Mach} {n k : Nat} {c : Cfg} (go : Gone M n k c) {l : Nat} (hl : l ≤ n) : Ends M l ↔ (entOf M c = Ent.emp ∧ k = l) := by
  have sn : stepC M c = none ↔ entOf M c = Ent.emp := stepC_none
  constructor
  · rintro ⟨d, hd, e⟩
    have := go.uniq (n := n) (k' := l) (c' := d) ⟨hl, hd, .inl e⟩
    obtain ⟨rfl, rfl⟩ := this
    exact ⟨sn.mp e, rfl⟩
  · rintro ⟨e, rfl⟩
    exact ⟨c, go.stp, sn.mpr e⟩
/-! ### papers -/
inductive Pap where
  | opn
  | ends (n : Nat)
  | ring (f l : Nat)
  | drift (f l : Nat)
def tOpen : TStr := ⟨"open", by decide +kernel⟩
def PapAt (H : Hp) (v : V) : Pap → Prop
  | .opn => ∃ a, v = .ref a ∧ H a = some (.tup [.str tOpen.x])
  | .ends n => ∃ a, v = .ref a ∧ H a = some (.tup [.str tEnds.x, .int n])
  | .ring f l => ∃ a, v = .ref a ∧ H a = some (.tup [.str tRing.x, .int f, .int l])
  | .drift f l => ∃ a, v = .ref a ∧ H a = some (.tup [.str tDrift.x, .int f, .int l])
theorem PapAt.up {F F' : Hp} {v : V} {p : Pap} (h : PapAt F v p) (s : Same F F') : PapAt F' v p := by
  cases p <;> (obtain ⟨a, e, h⟩ := h; exact ⟨a, e, s _ _ h⟩)
def Pap.ok (M : Mach) : Pap → Prop
  | .opn => False
  | .ends n => Ends M n
  | .ring f l => f < l ∧ SameAt M f l ∧ Goes M l
  | .drift f l => f < l ∧ DriftAt M f l ∧ Goes M l
/-- the moments a paper has are no more than so many -/
def Pap.small (n : Nat) : Pap → Prop
  | .opn => True
  | .ends k => k ≤ n
  | .ring f l => f ≤ n ∧ l ≤ n
  | .drift f l => f ≤ n ∧ l ≤ n
theorem not_dec {p : Prop} [Decidable p] (h : (!decide p) = true) : ¬ p := fun z => by rw [decide_eq_true z] at h; cases h
theorem of_not_dec {p : Prop} [Decidable p] (h : ¬ (!decide p) = true) : p := by
  by_cases z : p
  · exact z
  · rw [decide_eq_false z] at h; exact absurd rfl h
def sp_is_ring : Sp := fun vs H Q _ => ∃ (F : Hp) (m : V) (M : Mach) (R S f l : Nat), vs = [m, .int f, .int l] ∧ Same F H ∧ Is F m M ∧ MOk M R S ∧ l ≤ 5000 ∧
  ∀ (F' H' : Hp) (r : Bool), Gr mu0 F H F' H' → (r = true ↔ (f < l ∧ SameAt M f l ∧ Goes M l)) → Q (.bl r) H'
theorem ok_is_ring (t : Tx K mg) : FnOk P w K mg base CX0 5 t.a_is_ring t.fd_is_ring ["machine", "first", "last"] sp_is_ring := by
  refine t.F_is_ring.ok sc_is_ring (fun vs H Q E h => ?_) (fun cdv A outer s H vs Q E hr h => ?_)
  · obtain ⟨F, m, M, R, S, f, l, rfl, _⟩ := h
    rfl
  · obtain ⟨F, m, M, R, S, f, l, rfl, sF, hm, hM, hl, q⟩ := h
    refine ⟨_, (pss_cons (ps_set (i := 3) sc_is_ring.nd rfl (by first | exact Or.inl rfl | exact Or.inr rfl) (pe_make t.M_Log (ok_Log_init t) (hr.mono (by decide)) (by rfl) t.m_Log t.b_Log_init .nil pass0 (pa_cons (pv 0) (pa_cons (pv 2) pa_nil))))
      (pss_one (ps_ret (pe_and (pe_chain op_lt op_le (pv 1) (pv 2) (pe_meth0 (pv 3) t.cl_Log t.M_Log_last (ok_Log_last t) (hr.mono (by decide)) t.b_Log_last .nil pass0)) (pe_one (pe_meth (pv 3) t.cl_Log t.M_Log_same (ok_Log_same t) (hr.mono (by decide)) t.b_Log_same .nil pass0 (pa_cons (pv 1) (pa_cons (pv 2) pa_nil)))))))), ?_⟩
    have ga : Gr mu0 F H F H := Gr.refl sF
    refine ⟨_, rfl, _, rfl, fun y dy ny ndy ney => ?_⟩
    have g1 := ga.own (o := .own y) ndy
    have ny2 : (upd H dy (.own y)) y = none := by rw [upd_ne ney.symm]; exact ny
    have g2 := g1.own (o := .ins t.C_Log dy []) ny2
    have hy : H y = none := ga.th _ ny
    have fy : F y = none := ga.fh.free ny
    refine ⟨F, y, dy, m, M, R, S, l, rfl, upd_same, fy, g2.fh, hm, hM, hl, fun F3 H3 Ra Pa Ta k c cs g3 fy3 go hh x => ⟨rfl, ?_⟩⟩
    have g13 := g2.thn g3 fun c z => .inr (by rw [show c = y from z]; exact hy)
    obtain ⟨dx, ho⟩ := x.ob
    have gle := go.le
    have lcs := hh.1
    have kn : (cs.length : Int) - 1 - (if (decide (entOf M c = Ent.emp)) = true then 1 else 0) + 1 = known M k c := by
      unfold known
      rw [lcs]
      by_cases e : entOf M c = Ent.emp
      · rw [if_pos (decide_eq_true e), if_pos e]; omega
      · rw [if_neg (by rw [decide_eq_false e]; decide), if_neg e]; omega
    have kle : known M k c ≤ k + 1 := by unfold known; split <;> omega
    have ki := known_iff go (Nat.le_refl l)
    have sat : ∀ {f : Nat} {a : Cfg}, cs[f]? = some a → stepsC M f = some a := fun h => hh.2 _ _ h
    refine ⟨_, rfl, _, rfl, _, _, rfl, rfl, _, rfl, ite2 (fun c1 => ?_) (fun c1 => ?_)⟩
    · have c1 : (f : Int) < l := of_decide_eq_true c1
      refine ⟨_, rfl, y, dx, _, rfl, ho, Log_no (by decide +kernel) (by decide +kernel) (by decide +kernel) (by decide +kernel), F3, y, Ra, Pa, Ta, cs, _, rfl, g3.fh, x, _, _, rfl, rfl, _, rfl, ite2 (fun c2 => ?_) (fun c2 => ?_)⟩
      · have c2 := of_decide_eq_true c2
        have lk : l < known M k c := by omega
        have hf : cs[f]? = some _ := List.getElem?_eq_getElem (by omega)
        have hl : cs[l]? = some _ := List.getElem?_eq_getElem (by omega)
        refine ⟨_, rfl, y, dx, _, rfl, ho, Log_no (by decide +kernel) (by decide +kernel) (by decide +kernel) (by decide +kernel), _, rfl, _, rfl, F3, y, Ra, Pa, Ta, cs, _, f, l, _, _, rfl, g3.fh, x, hf, hl, ?_⟩
        refine q F3 _ _ g13 ⟨fun z => ⟨by omega, ⟨_, _, sat hf, sat hl, z⟩, ki.mp lk⟩, fun ⟨_, ⟨a, b, h1, h2, h3⟩, _⟩ => ?_⟩
        rw [sat hf] at h1
        rw [sat hl] at h2
        cases h1; cases h2
        exact h3
      · have c2 := fun z => c2 (decide_eq_true z)
        refine q F3 _ _ g13 ⟨(fun z => nomatch z), fun z => ?_⟩
        have := ki.mpr z.2.2
        exact absurd (by omega) c2
    · have c1 : ¬ (f : Int) < l := fun z => c1 (decide_eq_true z)
      exact ⟨_, rfl, ifF rfl (q F3 _ _ g13 ⟨(fun z => nomatch z), fun z => absurd z.1 (by omega)⟩)⟩
def sp_is_drift : Sp := fun vs H Q _ => ∃ (F : Hp) (m : V) (M : Mach) (R S f l : Nat), vs = [m, .int f, .int l] ∧ Same F H ∧ Is F m M ∧ MOk M R S ∧ l ≤ 5000 ∧
  ∀ (F' H' : Hp) (r : Bool), Gr mu0 F H F' H' → (r = true ↔ (f < l ∧ DriftAt M f l ∧ Goes M l)) → Q (.bl r) H'
theorem ok_is_drift (t : Tx K mg) : FnOk P w K mg base CX0 5 t.a_is_drift t.fd_is_drift ["machine", "first", "last"] sp_is_drift := by
  refine t.F_is_drift.ok sc_is_drift (fun vs H Q E h => ?_) (fun cdv A outer s H vs Q E hr h => ?_)
  · obtain ⟨F, m, M, R, S, f, l, rfl, _⟩ := h
    rfl
  · obtain ⟨F, m, M, R, S, f, l, rfl, sF, hm, hM, hl, q⟩ := h
    refine ⟨_, (pss_cons (ps_set (i := 3) sc_is_drift.nd rfl (by first | exact Or.inl rfl | exact Or.inr rfl) (pe_make t.M_Log (ok_Log_init t) (hr.mono (by decide)) (by rfl) t.m_Log t.b_Log_init .nil pass0 (pa_cons (pv 0) (pa_cons (pv 2) pa_nil))))
      (pss_cons (ps_if (pt_not (pt_chain op_lt op_le (pv 1) (pv 2) (pe_meth0 (pv 3) t.cl_Log t.M_Log_last (ok_Log_last t) (hr.mono (by decide)) t.b_Log_last .nil pass0))) (pss_one (ps_ret pe_bl)) pss_nil)
      (pss_cons (ps_set (i := 4) sc_is_drift.nd rfl (by first | exact Or.inl rfl | exact Or.inr rfl) (pe_slice sl_list (pe_fld (pv 3) rfl) (po_some (pv 1)) (po_some (pv 2))))
      (pss_one (ps_ret (pe_meth (pv 3) t.cl_Log t.M_Log_drifts (ok_Log_drifts t) (hr.mono (by decide)) t.b_Log_drifts .nil pass0 (pa_cons (pv 1) (pa_cons (pv 2) (pa_cons (pe_callB (id := "min") (cr_min rfl) (by rfl) t.n_min (by decide +kernel) (pa_cons (pv 4) pa_nil)) (pa_cons (pe_callB (id := "max") (cr_max rfl) (by rfl) t.n_max (by decide +kernel) (pa_cons (pv 4) pa_nil)) pa_nil)))))))))), ?_⟩
    have ga : Gr mu0 F H F H := Gr.refl sF
    refine ⟨_, rfl, _, rfl, fun y dy ny ndy ney => ?_⟩
    have g1 := ga.own (o := .own y) ndy
    have ny2 : (upd H dy (.own y)) y = none := by rw [upd_ne ney.symm]; exact ny
    have g2 := g1.own (o := .ins t.C_Log dy []) ny2
    have hy : H y = none := ga.th _ ny
    have fy : F y = none := ga.fh.free ny
    refine ⟨F, y, dy, m, M, R, S, l, rfl, upd_same, fy, g2.fh, hm, hM, hl, fun F3 H3 Ra Pa Ta k c cs g3 fy3 go hh x => ⟨rfl, ?_⟩⟩
    have g13 := g2.thn g3 fun c z => .inr (by rw [show c = y from z]; exact hy)
    obtain ⟨dx, ho⟩ := x.ob
    have gle := go.le
    have lcs := hh.1
    have kn : (cs.length : Int) - 1 - (if (decide (entOf M c = Ent.emp)) = true then 1 else 0) + 1 = known M k c := by
      unfold known
      rw [lcs]
      by_cases e : entOf M c = Ent.emp
      · rw [if_pos (decide_eq_true e), if_pos e]; omega
      · rw [if_neg (by rw [decide_eq_false e]; decide), if_neg e]; omega
    have kle : known M k c ≤ k + 1 := by unfold known; split <;> omega
    have ki := known_iff go (Nat.le_refl l)
    have sat : ∀ {f : Nat} {a : Cfg}, cs[f]? = some a → stepsC M f = some a := fun h => hh.2 _ _ h
    have len : ∀ {f : Nat} {a : Cfg}, cs[f]? = some a → a.l.length ≤ 100000 := fun {f a} h => by
      have h1 := (stepsC_ok hM (sat h)).2
      have h2 := (List.getElem?_eq_some_iff.mp h).1
      omega
    refine ⟨_, rfl, _, rfl, _, _, rfl, rfl, _, rfl, ite2 (fun c1 => ?_) (fun c1 => ?_)⟩
    rotate_left
    · have c1 : ¬ (f : Int) < l := fun z => c1 (decide_eq_true z)
      exact ⟨_, rfl, ifT rfl (q F3 _ false g13 ⟨(fun z => nomatch z), fun z => absurd z.1 (by omega)⟩)⟩
    have c1 : (f : Int) < l := of_decide_eq_true c1
    refine ⟨_, rfl, y, dx, _, rfl, ho, Log_no (by decide +kernel) (by decide +kernel) (by decide +kernel) (by decide +kernel), F3, y, Ra, Pa, Ta, cs, _, rfl, g3.fh, x, _, _, rfl, rfl, _, rfl, ite2 (fun c2 => ?_) (fun c2 => ?_)⟩
    · have c2 := not_dec c2
      refine q F3 _ false g13 ⟨(fun z => nomatch z), fun z => ?_⟩
      have := ki.mpr z.2.2
      exact absurd (by omega) c2
    have c2 := of_not_dec c2
    have lk : l < known M k c := by omega
    have hf : cs[f]? = some _ := List.getElem?_eq_getElem (by omega)
    have hl' : cs[l]? = some _ := List.getElem?_eq_getElem (by omega)
    refine ⟨_, rfl, y, t.C_Log, dx, _, _, rfl, ho, t.cl_Log, t.nA_Log_places, Log_get_places, _, rfl, _, rfl, _, rfl, _, rfl, Pa, _, rfl, SqL.of (g3.fh _ _ x.pl), fun P nP => ?_⟩
    rw [cut_mid (by omega) (by rw [List.length_map]; omega)]
    have ens : ((cs.map fun c => V.int c.s).drop f).take (l - f) = (((cs.drop f).take (l - f)).map (·.s)).map V.int := by
      rw [List.map_map, List.map_take, List.map_drop]; rfl
    rw [ens]
    generalize hns : ((cs.drop f).take (l - f)).map (·.s) = ns
    have lns : 0 < ns.length := by rw [← hns, List.length_map, List.length_take, List.length_drop]; omega
    have mem : ∀ x, x ∈ ns ↔ ∃ i c, f ≤ i ∧ i < l ∧ stepsC M i = some c ∧ c.s = x := by
      intro x
      rw [← hns, List.mem_map]
      constructor
      · rintro ⟨d, hd, rfl⟩
        obtain ⟨i, hi⟩ := List.getElem?_of_mem hd
        rw [List.getElem?_take] at hi
        split at hi
        · rw [List.getElem?_drop] at hi
          exact ⟨f + i, d, by omega, by omega, sat hi, rfl⟩
        · cases hi
      · rintro ⟨i, d, h1, h2, h3, rfl⟩
        have hi : cs[i]? = some _ := List.getElem?_eq_getElem (by omega)
        rw [sat hi] at h3
        cases h3
        refine ⟨_, List.mem_of_getElem? (i := i - f) ?_, rfl⟩
        rw [List.getElem?_take, if_pos (by omega), List.getElem?_drop, show f + (i - f) = i by omega]
        exact hi
    have g4 := g13.own (o := .lst (ns.map V.int)) nP
    have g3' := (Gr.refl (mu := mu0) g3.fh).own (o := .lst (ns.map V.int)) nP
    have x4 := x.gr g3' fun z => z
    obtain ⟨dx4, ho4⟩ := x4.ob
    have hP : (upd H3 P (.lst (ns.map V.int))) P = some (.lst (ns.map V.int)) := upd_same
    generalize upd H3 P (.lst (ns.map V.int)) = H4 at g4 g3' x4 ho4 hP
    refine ⟨_, rfl, y, dx4, _, rfl, ho4, Log_no (by decide +kernel) (by decide +kernel) (by decide +kernel) (by decide +kernel), _, rfl, _, rfl, ?_⟩
    refine ⟨_, rfl, P, ns, rfl, SqL.of hP, lns, fun lo lm lh => ?_⟩
    refine ⟨_, rfl, P, ns, rfl, SqL.of hP, lns, fun hi hm hh' => ?_⟩
    have il : LoM M f l lo := ⟨(mem lo).mp lm, fun i d h1 h2 h3 => lh _ ((mem _).mpr ⟨i, d, h1, h2, h3, rfl⟩)⟩
    have ih : HiM M f l hi := ⟨(mem hi).mp hm, fun i d h1 h2 h3 => hh' _ ((mem _).mpr ⟨i, d, h1, h2, h3, rfl⟩)⟩
    have dd := drift_iff (sat hf) (sat hl') il ih
    refine ⟨F3, y, Ra, Pa, Ta, cs, _, f, l, _, _, lo, hi, rfl, g4.fh, x4, hf, hl', len hf, len hl', fun F5 H5 r g5 hr' => ?_⟩
    refine q F5 H5 r (g4.trans g5) ⟨fun z => ⟨by omega, dd.mpr (hr'.mp z), ki.mp lk⟩, fun z => hr'.mpr (dd.mp z.2.1)⟩
/-! ### the count of steps to the end -/
def sp_ends_behind : Sp := fun vs H Q _ => ∃ (F : Hp) (m : V) (M : Mach) (R S n : Nat), vs = [m, .int n] ∧ Same F H ∧ Is F m M ∧ MOk M R S ∧ n ≤ 5000 ∧
  ∀ (F' H' : Hp) (k : Nat) (c : Cfg), Gr mu0 F H F' H' → Gone M n k c → Q (if entOf M c = Ent.emp then .int k else .non) H'
theorem ok_ends_behind (t : Tx K mg) : FnOk P w K mg base CX0 4 t.a_ends_behind t.fd_ends_behind ["machine", "most"] sp_ends_behind := by
  refine t.F_ends_behind.ok sc_ends_behind (fun vs H Q E h => ?_) (fun cdv A outer s H vs Q E hr h => ?_)
  · obtain ⟨F, m, M, R, S, n, rfl, _⟩ := h
    rfl
  · obtain ⟨F, m, M, R, S, n, rfl, sF, hm, hM, hn, q⟩ := h
    refine ⟨_, (pss_cons (ps_asg (pe_call (ok_gone t) (hr.mono (by decide)) (by rfl) t.m_gone t.F_gone.kp t.b_gone .nil pass0 (pa_cons (pv 0) (pa_cons (pv 1) pa_nil))) (pg_tup rfl (pgs_cons (pg_name (i := 2) sc_ends_behind.nd rfl (by first | exact Or.inl rfl | exact Or.inr rfl)) (pgs_cons (pg_name (i := 3) sc_ends_behind.nd rfl (by first | exact Or.inl rfl | exact Or.inr rfl)) pgs_nil))))
      (pss_cons (ps_if (pt_val (pv 3)) (pss_one (ps_ret (pe_fld (pv 2) rfl))) pss_nil)
      (pss_one (ps_ret pe_non)))), ?_⟩
    refine ⟨_, rfl, _, rfl, F, m, M, R, S, n, rfl, sF, hm, hM, hn, fun F1 H1 u y d k c g1 hu ny nd fy fd ga go => ?_⟩
    obtain ⟨⟨dx, ho⟩, _⟩ := id ga
    have q1 := q F1 H1 k c g1 go
    refine ⟨u, _, rfl, SqT.of (g1.fh _ _ hu), rfl, _, _, rfl, _, _, rfl, rfl, ?_⟩
    refine ⟨_, rfl, _, rfl, ite2 (fun c1 => ?_) (fun c1 => ?_)⟩
    · rw [if_pos (of_decide_eq_true c1)] at q1
      exact ⟨_, rfl, y, t.C_Goer, dx, _, _, rfl, ho, t.cl_Goer, t.nA_Goer_steps, Goer_get_steps, q1⟩
    · rw [if_neg (fun z => c1 (decide_eq_true z))] at q1
      exact q1
theorem ne_str {a b : Str} (h : ¬ a = b) : ¬ decide (V.str a = V.str b) = true := fun z => h (V.str.inj (of_decide_eq_true z))
/-! ### back papers (plain) -/
theorem addK_nd : ∀ (xs ks : List Part), ks.Nodup → (xs.foldl addK ks).Nodup
  | [], ks, h => h
  | y :: xs, ks, h => by
    refine addK_nd xs (addK ks y) ?_
    unfold addK
    split
    · exact h
    · rename_i n
      rw [List.nodup_append]
      refine ⟨h, List.nodup_cons.mpr ⟨(fun z => nomatch z), List.nodup_nil⟩, fun a ma b mb e => ?_⟩
      rw [List.mem_singleton.mp mb] at e
      exact n (e ▸ ma)
theorem mem_addK2 (xs ks : List Part) (x : Part) : x ∈ xs.foldl addK ks ↔ x ∈ ks ∨ x ∈ xs := by
  refine ⟨mem_addK xs ks x, ?_⟩
  induction xs generalizing ks with
  | nil => rintro (h | h); exact h; cases h
  | cons y xs ih =>
    intro h
    refine ih (addK ks y) ?_
    have k1 : ∀ z, z ∈ ks ∨ z = y → z ∈ addK ks y := fun z m => by
      unfold addK
      split
      · rcases m with m | rfl
        · exact m
        · assumption
      · rcases m with m | rfl
        · exact List.mem_append_left _ m
        · exact List.mem_append_right _ (List.mem_singleton.mpr rfl)
    rcases h with h | h
    · exact .inl (k1 x (.inl h))
    · rcases List.mem_cons.mp h with rfl | h
      · exact .inl (k1 x (.inr rfl))
      · exact .inr h
theorem goB_perm {M : Mach} {R S : Nat} {ps qs : List Part} (h : ps.Perm qs) : (goB M R S ps).Perm (goB M R S qs) := by
  refine (sortD_perm _).trans (List.Perm.trans ?_ (sortD_perm _).symm)
  refine (List.perm_ext_iff_of_nodup (addK_nd _ _ List.nodup_nil) (addK_nd _ _ List.nodup_nil)).mpr fun x => ?_
  rw [mem_addK2, mem_addK2]
  have e : x ∈ (ps.flatMap fun p => aheadOf M S p R) ↔ x ∈ (qs.flatMap fun p => aheadOf M S p R) := by
    rw [List.mem_flatMap, List.mem_flatMap]
    exact ⟨fun ⟨p, m, k⟩ => ⟨p, h.mem_iff.mp m, k⟩, fun ⟨p, m, k⟩ => ⟨p, h.mem_iff.mpr m, k⟩⟩
  rw [e]
theorem lvl_nil {M : Mach} {R S d : Nat} (h : lvl M R S d = []) : ∀ k, d ≤ k → lvl M R S k = []
  | 0, l => by rw [show (0 : Nat) = d by omega]; exact h
  | k + 1, l => by
    by_cases e : d = k + 1
    · rw [← e]; exact h
    · show goB M R S (lvl M R S k) = []
      rw [lvl_nil h k (by omega)]
      exact List.Perm.eq_nil (sortD_perm _)
def FewTo (M : Mach) (R S d : Nat) : Prop := lvl M R S d = [] ∧ ∀ k, k < d → (lvl M R S k).length ≤ 300
def NotEnded (M : Mach) (n : Nat) : Prop := ∀ k c, Gone M n k c → entOf M c ≠ .emp
def BackOk (M : Mach) (R S d : Nat) : Prop := 1 ≤ d ∧ d ≤ 8 ∧ FewTo M R S d ∧ NotEnded M (d - 1)
/-! ### back papers, walked -/
def sp_first_empty : Sp := fun vs H Q _ => ∃ (F : Hp) (m : V) (M : Mach) (R S n : Nat), vs = [m, .int n] ∧ Same F H ∧ Is F m M ∧ MOk M R S ∧ 1 ≤ n ∧ n ≤ 100 ∧
  ∀ (F' H' : Hp) (r : V), Gr mu0 F H F' H' → (decide (r = .non) = false ↔ FewTo M R S n) → Q r H'
theorem ok_first_empty (t : Tx K mg) : FnOk P w K mg base CX0 3 t.a_first_empty t.fd_first_empty ["machine", "most"] sp_first_empty := by
  refine t.F_first_empty.ok sc_first_empty (fun vs H Q E h => ?_) (fun cdv A outer s H vs Q E hr h => ?_)
  · obtain ⟨F, m, M, R, S, n, rfl, _⟩ := h
    rfl
  · obtain ⟨F, m, M, R, S, n, rfl, sF, hm, hM, n1, n100, q⟩ := h
    refine ⟨_, (pss_cons (ps_set (i := 2) sc_first_empty.nd rfl (by first | exact Or.inl rfl | exact Or.inr rfl) (pe_call (ok_ends_of t) (hr.mono (by decide)) (by rfl) t.m_ends_of t.F_ends_of.kp t.b_ends_of .nil pass0 (pa_cons (pv 0) pa_nil)))
      (pss_cons (ps_for PassesOwn.never rfl (pi_range2 (by rfl) t.n_range (pa_cons pe_int (pa_cons (pe_op op_add (pv 1) pe_int) pa_nil))) (pg_name (i := 3) sc_first_empty.nd rfl (by first | exact Or.inl rfl | exact Or.inr rfl)) (pss_cons (ps_if (pt_cmpR op_gt (pe_callB (id := "len") call_lenQ (by rfl) t.n_len (by decide +kernel) (pa_cons (pv 2) pa_nil)) (pe_glob (v := .int 300) (by rfl) t.m_MOST_PARTS ⟨_, rfl⟩) (nomark _)) (pss_one (ps_ret pe_non)) pss_nil)
      (pss_cons (ps_set (i := 2) sc_first_empty.nd rfl (by first | exact Or.inl rfl | exact Or.inr rfl) (pe_call (ok_gone_back t) (hr.mono (by decide)) (by rfl) t.m_gone_back t.F_gone_back.kp t.b_gone_back .nil pass0 (pa_cons (pv 0) (pa_cons (pv 2) pa_nil))))
      (pss_one (ps_if (pt_cmpR (op_eqD hr.units) (pv 2) (pe_lst pa_nil) (by rfl)) (pss_one (ps_ret (pv 3))) pss_nil)))))
      (pss_one (ps_ret pe_non)))), ?_⟩
    refine ⟨_, rfl, F, m, M, R, S, rfl, sF, hm, hM, fun F1 H1 c xs g1 hc al => ?_⟩
    refine ⟨_, rfl, _, _, rfl, rfl, 1, _, rfl, ⟨by decide, by decide, by omega, by omega⟩, for_range (lo := 1) (n := ((n : Int) + 1 - 1).toNat) (fun i σ G => ∃ (F2 : Hp) (a : Addr) (ys : List V) (ps : List Part) (v3 : Option V), σ = [some m, some (.int n), some (.ref a), v3] ∧ Gr mu0 F H F2 G ∧ F2 a = some (.lst ys) ∧ IsAll F2 ys ps ∧ ps.Perm (lvl M R S i) ∧ (∀ k, k < i → (lvl M R S k).length ≤ 300) ∧ ∀ k, 1 ≤ k → k ≤ i → lvl M R S k ≠ [])
      ⟨F1, c, xs, _, none, rfl, g1, hc, al, (sortD_perm _).symm, (fun k z => by omega), fun k z1 z2 => by omega⟩ ?_ ?_⟩
    · rintro i σ G hi ⟨F2, a, ys, ps, v3, rfl, g, ha, al, pm, few, ne⟩
      have hi : i < n := by omega
      have lps : ys.length = (lvl M R S i).length := by rw [al.1]; exact pm.length_eq
      refine ⟨_, rfl, a, ys, rfl, .inl (SqL.of (g.fh _ _ ha)), _, _, rfl, rfl, _, rfl, ?_⟩
      by_cases c1 : 300 < (lvl M R S i).length
      · refine ifT (decide_eq_true (by omega)) ?_
        exact q _ _ _ g ⟨(fun z => nomatch z), fun z => by have := z.2 i hi; omega⟩
      refine ifF (decide_eq_false (by omega)) ?_
      refine ⟨_, rfl, _, rfl, F2, m, M, R, S, i + 1, a, ys, ps, rfl, g.fh, hm.up g.ff, hM, ha, al, (fun p mp => lvl_ok i p (pm.mem_iff.mp mp)), by omega, by rw [pm.length_eq]; omega, fun F3 G3 b zs g3 hb al3 => ?_⟩
      have t3 := g.trans g3
      have pm3 : (goB M R S ps).Perm (lvl M R S (i + 1)) := goB_perm pm
      refine ⟨_, rfl, nil_le, fun l nl => ?_⟩
      have t4 := t3.own (o := .lst []) nl
      have hb4 := t4.fh _ _ hb
      refine eq_dat (a := goB M R S ps) (b := ([] : List Part)) ⟨b, zs, rfl, hb4, IsAll.up al3 t4.fh⟩ ⟨l, [], rfl, upd_same, All2.nil⟩ ⟨_, rfl, ?_⟩
      generalize upd G3 l (.lst []) = G4 at t4 ⊢
      have few' : ∀ k, k < i + 1 → (lvl M R S k).length ≤ 300 := fun k z => by
        by_cases e : k = i
        · rw [e]; omega
        · exact few k (by omega)
      by_cases c2 : goB M R S ps = []
      · refine ifT (decide_eq_true c2) ⟨_, rfl, ?_⟩
        have e : lvl M R S (i + 1) = [] := by
          rw [c2] at pm3
          exact List.Perm.eq_nil pm3.symm
        refine q _ _ _ t4 ⟨fun _ => ⟨lvl_nil e n (by omega), fun k z => ?_⟩, fun _ => rfl⟩
        by_cases z2 : k < i + 1
        · exact few' k z2
        · rw [lvl_nil e k (by omega)]; exact Nat.zero_le _
      · refine ifF (decide_eq_false c2) ?_
        refine ⟨F3, b, zs, _, _, rfl, t4, hb, al3, pm3, few', fun k z1 z2 => ?_⟩
        by_cases e : k = i + 1
        · rw [e]
          intro z
          rw [z] at pm3
          exact c2 (List.Perm.eq_nil pm3)
        · exact ne k z1 (by omega)
    · rintro σ G ⟨F2, a, ys, ps, v3, rfl, g, ha, al, pm, few, ne⟩
      exact q _ _ _ g ⟨(fun z => nomatch z), fun z => absurd z.1 (ne n n1 (by omega))⟩
def sp_is_back : Sp := fun vs H Q _ => ∃ (F : Hp) (m : V) (M : Mach) (R S n : Nat), vs = [m, .int n] ∧ Same F H ∧ Is F m M ∧ MOk M R S ∧
  ∀ (F' H' : Hp) (b : Bool), Gr mu0 F H F' H' → (b = true ↔ BackOk M R S n) → Q (.bl b) H'
theorem ok_is_back (t : Tx K mg) : FnOk P w K mg base CX0 5 t.a_is_back t.fd_is_back ["machine", "depth"] sp_is_back := by
  refine t.F_is_back.ok sc_is_back (fun vs H Q E h => ?_) (fun cdv A outer s H vs Q E hr h => ?_)
  · obtain ⟨F, m, M, R, S, n, rfl, _⟩ := h
    rfl
  · obtain ⟨F, m, M, R, S, n, rfl, sF, hm, hM, q⟩ := h
    refine ⟨_, (pss_cons (ps_if (pt_not (pt_chain op_le op_le pe_int (pv 1) (pe_glob (v := .int 8) (by rfl) t.m_MOST_DEPTH ⟨_, rfl⟩))) (pss_one (ps_ret pe_bl)) pss_nil)
      (pss_cons (ps_set (i := 2) sc_is_back.nd rfl (by first | exact Or.inl rfl | exact Or.inr rfl) (pe_call (ok_first_empty t) (hr.mono (by decide)) (by rfl) t.m_first_empty t.F_first_empty.kp t.b_first_empty .nil pass0 (pa_cons (pv 0) (pa_cons (pv 1) pa_nil))))
      (pss_one (ps_ret (pe_and (pe_cmpR op_notN (pv 2) pe_non (nomark _)) (pe_one (pe_cmpR op_isN (pe_call (ok_ends_behind t) (hr.mono (by decide)) (by rfl) t.m_ends_behind t.F_ends_behind.kp t.b_ends_behind .nil pass0 (pa_cons (pv 0) (pa_cons (pe_op op_sub (pv 1) pe_int) pa_nil))) pe_non (nomark _)))))))), ?_⟩
    have g0 : Gr mu0 F H F H := Gr.refl sF
    refine ⟨_, rfl, _, _, rfl, rfl, _, rfl, ?_⟩
    by_cases c1 : 1 ≤ n
    case neg => exact ifF (decide_eq_false (by omega)) ⟨_, rfl, ifT rfl (q _ _ false g0 ⟨(fun z => nomatch z), fun z => absurd z.1 c1⟩)⟩
    refine ifT (decide_eq_true (by omega)) ⟨_, _, rfl, rfl, _, rfl, ?_⟩
    by_cases c2 : n ≤ 8
    case neg => exact ifT (by rw [decide_eq_false (show ¬ (n : Int) ≤ 8 by omega)]; rfl) (q _ _ false g0 ⟨(fun z => nomatch z), fun z => absurd z.2.1 c2⟩)
    refine ifF (by rw [decide_eq_true (show (n : Int) ≤ 8 by omega)]; rfl) ?_
    refine ⟨_, rfl, _, rfl, F, m, M, R, S, n, rfl, sF, hm, hM, c1, by omega, fun F1 H1 r g1 hr1 => ?_⟩
    refine ⟨_, rfl, rfl, _, rfl, ?_⟩
    by_cases c3 : r = .non
    · refine ifF (by rw [decide_eq_true c3]; rfl) ?_
      refine q _ _ false g1 ⟨(fun z => nomatch z), fun z => ?_⟩
      have := hr1.mpr z.2.2.1
      rw [decide_eq_true c3] at this
      cases this
    refine ifT (by rw [decide_eq_false c3]; rfl) ?_
    have few := hr1.mp (decide_eq_false c3)
    refine ⟨_, rfl, _, rfl, _, _, rfl, rfl, F1, m, M, R, S, n - 1, by show [m, V.int ((n : Int) - 1)] = [m, V.int ((n - 1 : Nat) : Int)]; rw [show ((n : Int) - 1) = ((n - 1 : Nat) : Int) by omega], g1.fh, hm.up g1.ff, hM, by omega, fun F2 H2 k c g2 go => ⟨rfl, ?_⟩⟩
    have t2 := g1.trans g2
    by_cases e : entOf M c = .emp
    · rw [if_pos e]
      exact q _ _ false t2 ⟨(fun z => nomatch z), fun z => absurd e (z.2.2.2 k c go)⟩
    · rw [if_neg e]
      refine q _ _ true t2 ⟨fun _ => ⟨c1, c2, few, fun k' c' go' => ?_⟩, fun _ => rfl⟩
      obtain ⟨_, ec⟩ := go.uniq go'
      rw [← ec]; exact e
def tBack : TStr := ⟨"back", by decide +kernel⟩
def backD (o : Option Nat) : Option (T2 TStr Int) := o.map fun d => ⟨tBack, d⟩
/-- the least of these depths -/
structure LeastB (M : Mach) (R S n : Nat) (o : Option Nat) : Prop where
  no : o = none → ∀ d, 1 ≤ d → d ≤ n → ¬ BackOk M R S d
  yes : ∀ d, o = some d → 1 ≤ d ∧ d ≤ n ∧ BackOk M R S d ∧ ∀ e, 1 ≤ e → e < d → ¬ BackOk M R S e
theorem LeastB.uniq {M : Mach} {R S n : Nat} {o o' : Option Nat} (a : LeastB M R S n o) (b : LeastB M R S n o') : o = o' := by
  cases o with
  | none =>
    cases o' with
    | none => rfl
    | some d' =>
      obtain ⟨h1, h2, h3, _⟩ := b.yes d' rfl
      exact absurd h3 (a.no rfl d' h1 h2)
  | some d =>
    obtain ⟨h1, h2, h3, h4⟩ := a.yes d rfl
    cases o' with
    | none => exact absurd h3 (b.no rfl d h1 h2)
    | some d' =>
      obtain ⟨k1, k2, k3, k4⟩ := b.yes d' rfl
      have n1 : ¬ d < d' := fun z => k4 d h1 z h3
      have n2 : ¬ d' < d := fun z => h4 d' k1 z k3
      rw [show d = d' by omega]
def sp_no_back : Sp := fun vs H Q _ => ∃ (F : Hp) (m : V) (M : Mach) (R S n : Nat), vs = [m, .int n] ∧ Same F H ∧ Is F m M ∧ MOk M R S ∧ n ≤ 100 ∧
  ∀ (F' H' : Hp) (v : V) (o : Option Nat), Gr mu0 F H F' H' → LeastB M R S n o → Is F' v (backD o) → Q v H'
theorem ok_no_back (t : Tx K mg) : FnOk P w K mg base CX0 6 t.a_no_back t.fd_no_back ["machine", "most"] sp_no_back := by
  refine t.F_no_back.ok sc_no_back (fun vs H Q E h => ?_) (fun cdv A outer s H vs Q E hr h => ?_)
  · obtain ⟨F, m, M, R, S, n, rfl, _⟩ := h
    rfl
  · obtain ⟨F, m, M, R, S, n, rfl, sF, hm, hM, hn, q⟩ := h
    refine ⟨_, (pss_cons (ps_expr (pe_call (ok_must_machine t) (hr.mono (by decide)) (by rfl) t.m_must_machine t.F_must_machine.kp t.b_must_machine .nil pass0 (pa_cons (pv 0) pa_nil)))
      (pss_cons (ps_for PassesOwn.never rfl (pi_range2 (by rfl) t.n_range (pa_cons pe_int (pa_cons (pe_op op_add (pv 1) pe_int) pa_nil))) (pg_name (i := 2) sc_no_back.nd rfl (by first | exact Or.inl rfl | exact Or.inr rfl)) (pss_one (ps_if (pt_val (pe_call (ok_is_back t) (hr.mono (by decide)) (by rfl) t.m_is_back t.F_is_back.kp t.b_is_back .nil pass0 (pa_cons (pv 0) (pa_cons (pv 2) pa_nil)))) (pss_one (ps_ret (pe_tup (pa_cons pe_str (pa_cons (pv 2) pa_nil))))) pss_nil)))
      (pss_one (ps_ret pe_non)))), ?_⟩
    refine ⟨_, rfl, F, m, M, R, S, rfl, sF, hm, hM, fun H1 g1 => ?_⟩
    refine ⟨_, rfl, _, _, rfl, rfl, 1, _, rfl, ⟨by decide, by decide, by omega, by omega⟩, for_range (lo := 1) (n := ((n : Int) + 1 - 1).toNat) (fun i σ G => ∃ (F2 : Hp) (v2 : Option V), σ = [some m, some (.int n), v2] ∧ Gr mu0 F H F2 G ∧ ∀ d, 1 ≤ d → d ≤ i → ¬ BackOk M R S d)
      ⟨F, none, rfl, g1, fun d z1 z2 => by omega⟩ ?_ ?_⟩
    · rintro i σ G hi ⟨F2, v2, rfl, g, no⟩
      have hi : i < n := by omega
      have ei : ((1 : Int) + (i : Int)) = ((i + 1 : Nat) : Int) := by omega
      rw [ei]
      refine ⟨_, rfl, _, rfl, F2, m, M, R, S, i + 1, rfl, g.fh, hm.up g.ff, hM, fun F3 G3 b g3 hb => ⟨_, rfl, ?_⟩⟩
      have t3 := g.trans g3
      cases b with
      | true =>
        refine ifT rfl ⟨_, rfl, two_le, fun T nT => ?_⟩
        exact q _ _ (.ref T) (some (i + 1)) (t3.new nT) ⟨(fun z => nomatch z), fun d e => by
          cases e
          exact ⟨by omega, by omega, hb.mp rfl, fun e z1 z2 => no e z1 (by omega)⟩⟩ ⟨T, _, _, rfl, upd_same, rfl, rfl⟩
      | false =>
        refine ifF rfl ⟨F3, _, rfl, t3, fun d z1 z2 => ?_⟩
        by_cases e : d = i + 1
        · subst e
          exact fun z => by have := hb.mpr z; cases this
        · exact no d z1 (by omega)
    · rintro σ G ⟨F2, v2, rfl, g, no⟩
      exact q _ _ .non none g ⟨fun _ d z1 z2 => no d z1 (by omega), fun d e => nomatch e⟩ rfl
/-! ### strides told, and runs -/
theorem look_perm {l m : List PI} (h : Nd l) (p : l.Perm m) (x : Int) : look l x = look m x := by
  have hm : Nd m := (p.map (fun q : PI => q.a)).nodup_iff.mp h
  cases e : look m x with
  | some v => exact look_mem h (p.mem_iff.mpr (mem_look e))
  | none =>
    cases f : look l x with
    | none => rfl
    | some v =>
      have : look m x = some v := look_mem hm (p.mem_iff.mp (mem_look f))
      rw [e] at this; cases this
theorem gz_told {l : List PI} (h : Nd l) (x : Int) : gz (told l) x = gz l x := by
  have hf : Nd (l.filter nz) := List.Sublist.nodup (List.Sublist.map _ List.filter_sublist) h
  unfold gz
  rw [(ZRel.filt h).lk x]
  unfold told
  rw [look_perm (nd_srt hf) (srt_perm _) x]
theorem told_nd {l : List PI} (h : Nd l) : Nd (told l) := nd_srt (List.Sublist.nodup (List.Sublist.map _ List.filter_sublist) h)
theorem told_mem {l : List PI} {q : PI} (m : q ∈ told l) : q ∈ l := (List.mem_filter.mp (mem_srt.mp m)).1
/-! ### a setup that has a part (plain) -/
theorem gz_put (l : List PI) (x v y : Int) : gz (put l x v) y = if y = x then v else gz l y := by
  unfold gz
  rw [look_put]
  by_cases h : y = x
  · rw [if_pos h, if_pos h]; rfl
  · rw [if_neg h, if_neg h]
def Fits (x : Setup) (p : Part) : Prop := x.a = p.a ∧ ∀ q ∈ p.b.l, gz x.c (x.b + q.a) = q.b
/-- a setup whose signs are signs -/
structure SOk (R S : Nat) (x : Setup) : Prop where
  r0 : 0 ≤ x.a
  r1 : x.a < R
  nd : Nd x.c
  sg : ∀ q ∈ x.c, 0 ≤ q.b ∧ q.b < S
theorem SOk.gz {R S : Nat} {x : Setup} (h : SOk R S x) (s1 : 1 ≤ S) (y : Int) : 0 ≤ E.gz x.c y ∧ E.gz x.c y < S := by
  unfold E.gz
  cases e : look x.c y with
  | none => simp only [Option.getD_none]; omega
  | some v => exact h.sg _ (mem_look e)
theorem SOk.ent {M : Mach} {R S : Nat} {x : Setup} (hM : MOk M R S) (h : SOk R S x) : ∃ row, M[x.a.toNat]? = some row ∧ 0 ≤ (look x.c x.b).getD 0 ∧ row[((look x.c x.b).getD 0).toNat]? = some (entAt M x.a (E.gz x.c x.b)) ∧ EOk R S (entAt M x.a (E.gz x.c x.b)) := by
  obtain ⟨s0, s1⟩ := h.gz (by have := hM.s2; omega) x.b
  obtain ⟨row, e1, e2, e3⟩ := ent_of hM h.r0 h.r1 s0 s1
  exact ⟨row, e1, s0, e2, e3⟩
theorem SOk.step {M : Mach} {R S : Nat} {x : Setup} (hM : MOk M R S) (h : SOk R S x) {p w r : Int} (e : entAt M x.a (E.gz x.c x.b) = .go p w r) : SOk R S ⟨r, x.b + w, told (put x.c x.b p)⟩ := by
  obtain ⟨_, _, _, _, eo⟩ := h.ent hM
  obtain ⟨o1, _, o3, o4⟩ := eo.ok _ _ _ e
  refine ⟨o3, o4, told_nd (nd_put h.nd _ _), fun q m => ?_⟩
  rcases mem_put (told_mem m) with m | rfl
  · exact h.sg q m
  · exact o1
theorem look_nd {l : List PI} (h : Nd l) {q : PI} (m : q ∈ l) : look l q.a = some q.b := look_mem h m
/-! ### the ends' setups have their parts (plain) -/
theorem mem_addK' : ∀ (xs ks : List Part) (x : Part), x ∈ ks ∨ x ∈ xs → x ∈ xs.foldl addK ks
  | [], ks, x, h => by
    rcases h with h | h
    · exact h
    · cases h
  | y :: xs, ks, x, h => by
    refine mem_addK' xs (addK ks y) x ?_
    have k1 : ∀ z, z ∈ ks → z ∈ addK ks y := fun z m => by
      unfold addK
      split
      · exact m
      · exact List.mem_append_left _ m
    have k2 : y ∈ addK ks y := by
      unfold addK
      split
      · assumption
      · exact List.mem_append_right _ (List.mem_singleton.mpr rfl)
    rcases h with h | h
    · exact .inl (k1 x h)
    · rcases List.mem_cons.mp h with rfl | h
      · exact .inl k2
      · exact .inr h
theorem has_end {M : Mach} {R S : Nat} {x : Setup} (s1 : 1 ≤ S) (ok : SOk R S x) (e : entAt M x.a (gz x.c x.b) = .emp) : ∃ p ∈ lvl M R S 0, Fits x p := by
  obtain ⟨z0, z1⟩ := ok.gz s1 x.b
  have er : ((x.a.toNat : Nat) : Int) = x.a := Int.toNat_of_nonneg ok.r0
  have ej : (((gz x.c x.b).toNat : Nat) : Int) = gz x.c x.b := Int.toNat_of_nonneg z0
  have r1 := ok.r1
  refine ⟨⟨(x.a.toNat : Int), ⟨[⟨0, ((gz x.c x.b).toNat : Int)⟩]⟩⟩, (sortD_perm _).mem_iff.mpr (List.mem_flatMap.mpr ⟨x.a.toNat, List.mem_range.mpr (by omega), List.mem_filterMap.mpr ⟨(gz x.c x.b).toNat, List.mem_range.mpr (by omega), ?_⟩⟩), er.symm, fun q m => ?_⟩
  · unfold endF
    rw [er, ej, if_pos e]
  · rw [List.mem_singleton.mp m]
    show gz x.c (x.b + 0) = ((gz x.c x.b).toNat : Int)
    rw [Int.add_zero, ej]
theorem has_step {M : Mach} {R S d : Nat} {x : Setup} {o : Part} {pu wa to : Int} (s1 : 1 ≤ S) (ok : SOk R S x) (e : entAt M x.a (gz x.c x.b) = .go pu wa to) (ho : o ∈ lvl M R S d) (f : Fits ⟨to, x.b + wa, told (put x.c x.b pu)⟩ o) : ∃ p ∈ lvl M R S (d + 1), Fits x p := by
  obtain ⟨z0, z1⟩ := ok.gz s1 x.b
  have er : ((x.a.toNat : Nat) : Int) = x.a := Int.toNat_of_nonneg ok.r0
  have ej : (((gz x.c x.b).toNat : Nat) : Int) = gz x.c x.b := Int.toNat_of_nonneg z0
  have r1 := ok.r1
  have ndo := (lvl_ok d o ho).nd
  obtain ⟨f1, f2⟩ := f
  have f1 : to = o.a := f1
  have f2 : ∀ q ∈ o.b.l, (if x.b + wa + q.a = x.b then pu else gz x.c (x.b + wa + q.a)) = q.b := fun q m => by
    have z : gz (told (put x.c x.b pu)) (x.b + wa + q.a) = q.b := f2 q m
    rw [gz_told (nd_put ok.nd _ _), gz_put] at z
    exact z
  have hl : (look o.b.l (-wa)).getD pu = pu := by
    cases k : look o.b.l (-wa) with
    | none => rfl
    | some v =>
      have z := f2 _ (mem_look k)
      rw [if_pos (by show x.b + wa + -wa = x.b; omega)] at z
      exact z.symm
  have hp : aheadF M o x.a.toNat (gz x.c x.b).toNat = some ⟨(x.a.toNat : Int), ⟨srt ((put o.b.l (-wa) ((gz x.c x.b).toNat : Int)).map fun q => ⟨q.a + wa, q.b⟩)⟩⟩ := by
    unfold aheadF
    rw [er, ej, e]
    show (if to = o.a ∧ (look o.b.l (-wa)).getD pu = pu then _ else _) = _
    rw [if_pos ⟨f1, hl⟩]
  refine ⟨_, (sortD_perm _).mem_iff.mpr (mem_addK' _ _ _ (.inr (List.mem_flatMap.mpr ⟨o, ho, List.mem_flatMap.mpr ⟨x.a.toNat, List.mem_range.mpr (by omega), List.mem_filterMap.mpr ⟨(gz x.c x.b).toNat, List.mem_range.mpr (by omega), hp⟩⟩⟩))), er.symm, fun q m => ?_⟩
  obtain ⟨q', m', rfl⟩ := List.mem_map.mp ((srt_perm _).mem_iff.mp m)
  have k := look_nd (nd_put ndo (-wa) ((gz x.c x.b).toNat : Int)) m'
  rw [look_put] at k
  show gz x.c (x.b + (q'.a + wa)) = q'.b
  by_cases z : q'.a = -wa
  · rw [if_pos z] at k
    rw [show x.b + (q'.a + wa) = x.b by omega, ← Option.some.inj k, ej]
  · rw [if_neg z] at k
    have y := f2 _ (mem_look k)
    rw [if_neg (show ¬ x.b + wa + q'.a = x.b by omega)] at y
    rw [show x.b + (q'.a + wa) = x.b + wa + q'.a by omega]
    exact y
/-! ### what never ends (plain) -/
theorem ZRel.of {l : List PI} (h : Nd l) : ZRel l (E.told l) := ⟨h, told_nd h, fun q m => of_decide_eq_true (List.mem_filter.mp (mem_srt.mp m)).2, fun x => (gz_told h x).symm⟩
theorem told_put {l : List PI} (h : Nd l) (x v : Int) : told (put (told l) x v) = told (put l x v) := by
  have z2 := ZRel.of (nd_put (told_nd h) x v)
  have z1 : ZRel (put l x v) (told (put (told l) x v)) := ⟨nd_put h _ _, z2.n', z2.z, fun y => by
    rw [← z2.lk, look_put, look_put]
    split
    · rfl
    · exact (gz_told h y).symm⟩
  rw [z1.told, ← z2.told]
def Never (M : Mach) : Prop := ∀ n, ∃ c, stepsC M n = some c
theorem Never.gone {M : Mach} {n k : Nat} {c : Cfg} (h : Never M) (g : Gone M n k c) : entOf M c ≠ .emp := fun e => by
  obtain ⟨d, hd⟩ := h (k + 1)
  rw [stepsC_next g.stp, stepC_none.mpr e] at hd
  cases hd
theorem ent_gz {M : Mach} {c : Cfg} : entOf M c = entAt M c.r (gz c.l c.s) := rfl
/-- two setups that read the same do the same -/
theorem step_sh {M : Mach} {a b a' : Cfg} {d : Int} (e : a.r = b.r) (s : b.s = a.s + d) (g : gz a.l a.s = gz b.l b.s) (h : stepC M a = some a') : ∃ b', stepC M b = some b' ∧ a'.r = b'.r ∧ b'.s = a'.s + d ∧ ∀ x, gz a.l x = gz b.l (x + d) → gz a'.l x = gz b'.l (x + d) := by
  have ee : entOf M b = entOf M a := by rw [ent_gz, ent_gz, ← e, ← g]
  cases k : entOf M a with
  | emp =>
    rw [stepC_none.mpr k] at h
    cases h
  | go p w r =>
    rw [stepC_go k] at h
    cases h
    rw [k] at ee
    refine ⟨_, stepC_go ee, rfl, by show b.s + w = a.s + w + d; omega, fun x z => ?_⟩
    show gz (put a.l a.s p) x = gz (put b.l b.s p) (x + d)
    rw [gz_put, gz_put]
    by_cases y : x = a.s
    · rw [if_pos y, if_pos (by omega)]
    · rw [if_neg y, if_neg (by omega)]; exact z
/-- led along by d on a side `P` of the strip: what is read behind f is all there -/
theorem never_led {M : Mach} {f l : Nat} {d : Int} {a b : Cfg} (P : Int → Prop) (fl : f < l) (ha : stepsC M f = some a) (hb : stepsC M l = some b) (er : a.r = b.r) (es : b.s = a.s + d) (eg : ∀ x, P x → gz a.l x = gz b.l (x + d)) (pd : ∀ x, P x → P (x + d)) (pr : ∀ i c, f ≤ i → i < l → stepsC M i = some c → P c.s) : Never M := by
  have key : ∀ n j, j ≤ n → ∃ A B, stepsC M (f + j) = some A ∧ stepsC M (l + j) = some B ∧ A.r = B.r ∧ B.s = A.s + d ∧ P A.s ∧ ∀ x, P x → gz A.l x = gz B.l (x + d) := by
    intro n
    induction n with
    | zero =>
      intro j hj
      rw [show j = 0 by omega]
      exact ⟨a, b, ha, hb, er, es, pr f a (Nat.le_refl _) fl ha, eg⟩
    | succ n ih =>
      intro j hj
      by_cases c : j ≤ n
      · exact ih j c
      obtain ⟨A, B, h1, h2, h3, h4, h5, h6⟩ := ih n (Nat.le_refl _)
      have ej : j = n + 1 := by omega
      subst ej
      obtain ⟨A', hA'⟩ : ∃ A', stepsC M (f + (n + 1)) = some A' := by
        obtain ⟨c', h⟩ := stepsC_le h2 (show f + (n + 1) ≤ l + n by omega)
        exact ⟨c', h⟩
      have sA : stepC M A = some A' := by rw [← stepsC_next h1]; exact hA'
      obtain ⟨B', sB, k1, k2, k3⟩ := step_sh h3 h4 (by rw [h6 _ h5, h4]) sA
      have hB' : stepsC M (l + (n + 1)) = some B' := by rw [← sB]; exact stepsC_next h2
      refine ⟨A', B', hA', hB', k1, k2, ?_, fun x px => k3 x (h6 x px)⟩
      by_cases z : f + (n + 1) < l
      · exact pr _ _ (by omega) z hA'
      · obtain ⟨A0, B0, g1, g2, _, g4, g5, _⟩ := ih (f + (n + 1) - l) (by omega)
        rw [show l + (f + (n + 1) - l) = f + (n + 1) by omega, hA'] at g2
        cases g2
        rw [g4]
        exact pd _ g5
  intro n
  obtain ⟨A, B, h1, h2, _⟩ := key n n (Nat.le_refl _)
  exact stepsC_le h2 (by omega)
theorem never_ring {M : Mach} {R S f l : Nat} (hM : MOk M R S) (fl : f < l) (h : SameAt M f l) : Never M := by
  obtain ⟨a, b, ha, hb, e⟩ := h
  unfold sameC at e
  rw [Bool.and_eq_true, Bool.and_eq_true] at e
  obtain ⟨⟨e1, e2⟩, e3⟩ := e
  have e1 := of_decide_eq_true e1
  have e2 := of_decide_eq_true e2
  have e3 := of_decide_eq_true e3
  refine never_led (d := 0) (fun _ => True) fl ha hb e1 (by omega) (fun x _ => ?_) (fun _ _ => trivial) (fun _ _ _ _ _ => trivial)
  rw [Int.add_zero, ← gz_told (stepsC_ok hM ha).1.nd, e3, gz_told (stepsC_ok hM hb).1.nd]
theorem never_drift {M : Mach} {f l : Nat} (fl : f < l) (h : DriftAt M f l) : Never M := by
  obtain ⟨a, b, ha, hb, er, es, eg⟩ := h
  rcases Int.lt_or_gt_of_ne es with c | c
  · refine never_led (d := b.s - a.s) (fun x => ∃ i c, f ≤ i ∧ i < l ∧ stepsC M i = some c ∧ c.s ≤ x) fl ha hb er (by omega) (fun x p => eg x (.inl ⟨c, p⟩)) (fun x ⟨i, c', h1, h2, h3, h4⟩ => ⟨i, c', h1, h2, h3, by omega⟩) (fun i c' h1 h2 h3 => ⟨i, c', h1, h2, h3, Int.le_refl _⟩)
  · refine never_led (d := b.s - a.s) (fun x => ∃ i c, f ≤ i ∧ i < l ∧ stepsC M i = some c ∧ x ≤ c.s) fl ha hb er (by omega) (fun x p => eg x (.inr ⟨c, p⟩)) (fun x ⟨i, c', h1, h2, h3, h4⟩ => ⟨i, c', h1, h2, h3, by omega⟩) (fun i c' h1 h2 h3 => ⟨i, c', h1, h2, h3, Int.le_refl _⟩)
def suC (c : Cfg) : Setup := ⟨c.r, c.s, told c.l⟩
theorem suC_ok {M : Mach} {R S k : Nat} {c : Cfg} (hM : MOk M R S) (h : stepsC M k = some c) : SOk R S (suC c) := by
  have o := (stepsC_ok hM h).1
  exact ⟨o.r0, o.r1, told_nd o.nd, fun q m => o.sg q (told_mem m)⟩
/-- a setup that is so many steps from an end has a part there -/
theorem has_back {M : Mach} {R S n : Nat} (hM : MOk M R S) {z : Cfg} (hz : stepsC M n = some z) (e : entOf M z = .emp) : ∀ j, j ≤ n → ∃ c, stepsC M (n - j) = some c ∧ ∃ p ∈ lvl M R S j, Fits (suC c) p
  | 0, _ => by
    refine ⟨z, hz, has_end (by have := hM.s2; omega) (suC_ok hM hz) ?_⟩
    show entAt M z.r (gz (told z.l) z.s) = .emp
    rw [gz_told (stepsC_ok hM hz).1.nd]
    exact e
  | j + 1, hj => by
    obtain ⟨c, hc, p, hp, f⟩ := has_back hM hz e j (by omega)
    obtain ⟨b, hb, sb⟩ := stepsC_back (show stepsC M (n - (j + 1) + 1) = some c by rw [show n - (j + 1) + 1 = n - j by omega]; exact hc)
    have nb := (stepsC_ok hM hb).1.nd
    refine ⟨b, hb, ?_⟩
    cases k : entOf M b with
    | emp =>
      rw [stepC_none.mpr k] at sb
      cases sb
    | go pu wa to =>
      rw [stepC_go k] at sb
      cases sb
      refine has_step (pu := pu) (wa := wa) (to := to) (by have := hM.s2; omega) (suC_ok hM hb) ?_ hp ?_
      · show entAt M b.r (gz (told b.l) b.s) = .go pu wa to
        rw [gz_told nb]
        exact k
      · show Fits ⟨to, b.s + wa, told (put (told b.l) b.s pu)⟩ p
        rw [told_put nb]
        exact f
theorem never_back {M : Mach} {R S d : Nat} (hM : MOk M R S) (h : BackOk M R S d) : Never M := by
  obtain ⟨d1, _, ⟨hd, _⟩, ne⟩ := h
  intro n
  induction n with
  | zero => exact ⟨c0, rfl⟩
  | succ n ih =>
    obtain ⟨c, hc⟩ := ih
    cases k : entOf M c with
    | go p w r => exact ⟨_, by rw [stepsC_next hc, stepC_go k]⟩
    | emp =>
      exfalso
      by_cases z : n ≤ d - 1
      · exact ne n c ⟨z, hc, .inl (stepC_none.mpr k)⟩ k
      · obtain ⟨_, _, p, hp, _⟩ := has_back hM hc k d (by omega)
        rw [hd] at hp
        cases hp
/-- what never ends goes on -/
theorem Never.goes {M : Mach} (h : Never M) (l : Nat) : Goes M l := by
  obtain ⟨c, hc⟩ := h (l + 1)
  exact Goes.of hc (Nat.lt_succ_self l)
/-- x in xs, of data -/
theorem any_eqv {α : Type} [Dat α] (x : α) (l : List α) : ((l.map Dat.py).any fun z => PyData.eqv z (Dat.py x)) = true ↔ x ∈ l := by
  rw [List.any_eq_true]
  constructor
  · rintro ⟨z, hz, e⟩
    obtain ⟨y, hy, rfl⟩ := List.mem_map.mp hz
    rw [← (Dat.eqv y x).mp e]; exact hy
  · intro h
    exact ⟨_, List.mem_map.mpr ⟨x, h, rfl⟩, (Dat.eqv x x).mpr rfl⟩
/-! ### words and middles that are fine -/
def okW (S : Nat) (w : Int) (x : Wd) : Bool := decide ((x.l.length : Int) = w) && x.l.all fun z => decide (0 ≤ z) && decide (z < S)
theorem okW_iff {S : Nat} {k : Nat} {x : Wd} : okW S k x = true ↔ WOk S k x := by
  unfold okW
  rw [Bool.and_eq_true, decide_eq_true_iff, List.all_eq_true]
  constructor
  · rintro ⟨h1, h2⟩
    exact ⟨by omega, fun z hz => by have := h2 z hz; rw [Bool.and_eq_true, decide_eq_true_iff, decide_eq_true_iff] at this; exact this⟩
  · rintro ⟨h1, h2⟩
    exact ⟨by omega, fun z hz => by rw [Bool.and_eq_true, decide_eq_true_iff, decide_eq_true_iff]; exact h2 z hz⟩
def okM (R S : Nat) (w : Int) (m : Md) : Bool := [m.a, m.d].all (okW S w) && ((decide (0 ≤ m.b) && decide (m.b < R)) && (decide (0 ≤ m.c) && decide (m.c < S)))
theorem okM_iff {R S : Nat} {k : Nat} {m : Md} : okM R S k m = true ↔ CMd R S k m := by
  unfold okM
  rw [Bool.and_eq_true, Bool.and_eq_true, Bool.and_eq_true, Bool.and_eq_true, List.all_cons, List.all_cons, List.all_nil, Bool.and_true, Bool.and_eq_true, okW_iff, okW_iff]
  simp only [decide_eq_true_iff]
  exact ⟨fun ⟨⟨h1, h2⟩, h3, h4⟩ => ⟨h1, h2, h3, h4⟩, fun h => ⟨⟨h.a, h.d⟩, h.b, h.c⟩⟩
/-! ### shut papers looked at, by the program -/
theorem u65 {k : Nat} {A : Around} (r : Room k A) : A.units + 65 < cLine := by have := r.un; omega
theorem op_is_bn {X : Cx} : OpR X (compareOp .Is) (fun x y H Q => ∃ b, y = .bl b ∧ ((x = .non ∧ Q (.bl false) H) ∨ ∃ a, x = .bl a ∧ Q (.bl (decide (a = b))) H)) := by
  intro pins s σ H x y v u Q I rx ry h
  obtain ⟨b, rfl, ⟨rfl, q⟩ | ⟨a, rfl, q⟩⟩ := h
  · cases (show v = Value.none from rx)
    cases (show u = Value.bool b from ry)
    exact wpAny_is_other rfl (fun z => nomatch z) ⟨.bl false, H, I, rfl, q⟩
  · cases (show v = Value.bool a from rx)
    cases (show u = Value.bool b from ry)
    by_cases e : a = b
    · subst e
      exact wpAny_is_self rfl ⟨.bl true, H, I, rfl, by simpa using q⟩
    · exact wpAny_is_other rfl (fun z => e (Value.bool.inj z)) ⟨.bl false, H, I, rfl, by simpa [e] using q⟩
theorem all_bad {α : Type} {p : α → Bool} {l : List α} {i : Nat} {x : α} (h : l[i]? = some x) (e : p x = false) : l.all p = false := by
  rw [List.all_eq_false]
  exact ⟨x, List.mem_of_getElem? h, by rw [e]; decide⟩
theorem all_take {α : Type} {p : α → Bool} {l : List α} {i : Nat} {x : α} (h : l[i]? = some x) (e : p x = true) (t : (l.take i).all p = true) : (l.take (i + 1)).all p = true := by
  rw [List.take_add_one, h, List.all_append, t]
  show (true && ([x].all p)) = true
  rw [List.all_cons, e]; rfl
def sp_are_words : Sp := fun vs H Q _ => ∃ (F : Hp) (a : Addr) (xs : List V) (ws : List Wd) (w : Int) (S : Nat), vs = [.ref a, .int w, .int S] ∧ Same F H ∧ F a = some (.lst xs) ∧ IsAll F xs ws ∧ (∀ x ∈ ws, x.l.length ≤ 100000) ∧ ∀ H', Gr mu0 F H F H' → Q (.bl (ws.all (okW S w))) H'
theorem ok_are_words (t : Tx K mg) : FnOk P w K mg base CX0 1 t.a_are_words t.fd_are_words ["words", "width", "signs"] sp_are_words := by
  refine t.F_are_words.ok sc_are_words (fun vs H Q E h => ?_) (fun cdv A outer s H vs Q E hr h => ?_)
  · obtain ⟨F, a, xs, ws, w, S, rfl, _⟩ := h
    rfl
  · obtain ⟨F, a, xs, ws, w, S, rfl, sF, ha, al, hl, q⟩ := h
    refine ⟨_, (pss_cons (ps_for PassesOwn.never rfl (pi_list (pv 0)) (pg_name (i := 3) sc_are_words.nd rfl (by first | exact Or.inl rfl | exact Or.inr rfl)) (pss_one (ps_if (PW.pt (pw_or (pt_cmpR op_ne (pe_callB (id := "len") call_lenQ (by rfl) t.n_len (by decide +kernel) (pa_cons (pv 3) pa_nil)) (pv 1) (nomark _)) (pw_or1 (pt_not (pt_val (pe_callB (id := "all") (cr_all rfl) (by rfl) t.n_all (by decide +kernel) (pa_cons (pe_lc (own := [("sign", 4)]) (g := gName 4) (tt := tYes) rfl sc_are_words.nd (pi_tup (pv 3)) (blkOk_by (N := N_are_words) (sc := defScope s_are_words) (by decide +kernel)) (fun _ _ _ _ _ => (pg_name (i := 4) sc_are_words.nd rfl (by first | exact Or.inl rfl | exact Or.inr rfl))) (fun _ _ _ _ _ => pts_nil) (fun _ _ _ _ _ => (pe_chain op_le op_lt pe_int (pv 4) (pv 2)))) pa_nil))))))) (pss_one (ps_ret pe_bl)) pss_nil)))
      (pss_one (ps_ret pe_bl))), ?_⟩
    have g0 : Gr mu0 F H F H := Gr.refl sF
    refine ⟨_, rfl, a, rfl, ⟨_, SqL.of (sF _ _ ha)⟩, for_list (K := K) (a := a) (xs := xs) (fun i σ G => ∃ (v3 v4 : Option V), σ = [some (.ref a), some (.int w), some (.int S), v3, v4] ∧ Gr mu0 F H F G ∧ (ws.take i).all (okW S w) = true)
      ⟨none, none, rfl, g0, rfl⟩ (fun i σ G _ ⟨_, _, _, g, _⟩ => SqL.of (g.fh _ _ ha)) ?_ ?_⟩
    · rintro i y σ G hi ⟨v3, v4, rfl, g, t⟩
      obtain ⟨x, hx, ix⟩ := al.get' hi
      obtain ⟨b, rfl, hb⟩ := wd_ref ix
      have lx := hl x (List.mem_of_getElem? hx)
      refine ⟨_, rfl, b, _, rfl, .inr (SqT.of (g.fh _ _ hb)), _, rfl, rfl, _, rfl, ?_⟩
      rw [List.length_map, eqvi]
      by_cases c1 : (x.l.length : Int) = w
      · refine ifF (by rw [decide_eq_true c1]; rfl) ?_
        have f : ∀ z : Int, (decide (0 ≤ z) && decide (z < (S : Int))) = if 0 ≤ z then decide (z < (S : Int)) else false := fun z => by
          by_cases h : 0 ≤ z
          · rw [if_pos h, decide_eq_true h]; rfl
          · rw [if_neg h, decide_eq_false h]; rfl
        refine ⟨_, rfl, b, rfl, ⟨_, SqT.of (g.fh _ _ hb)⟩, fun D nD => lc_tup (K := K) (a := b) (xs := x.l.map V.int) (fun j G2 => Gr mu0 F H F G2 ∧ Ow H F G2 D (.lst (((x.l.take j).map fun z => decide (0 ≤ z) && decide (z < (S : Int))).map V.bl)))
          ⟨g.own nD, Ow.mk1 g nD⟩ (fun j G2 _ ⟨g, _⟩ => SqT.of (g.fh _ _ hb)) ?_ ?_⟩
        · rintro j y G2 hj ⟨g2, w2⟩
          rw [List.getElem?_map] at hj
          obtain ⟨z, hz, rfl⟩ := Option.map_eq_some_iff.mp hj
          have st : (((x.l.take (j + 1)).map fun z => decide (0 ≤ z) && decide (z < (S : Int))).map V.bl) = ((x.l.take j).map fun z => decide (0 ≤ z) && decide (z < (S : Int))).map V.bl ++ [V.bl (decide (0 ≤ z) && decide (z < (S : Int)))] := by
            rw [List.take_add_one, hz, List.map_append, List.map_append]; rfl
          have ll : (((x.l.take j).map fun z => decide (0 ≤ z) && decide (z < (S : Int))).map V.bl).length < sizeLine := by
            rw [List.length_map, List.length_map, List.length_take]; exact lt_size (by omega)
          refine ⟨rfl, yes ⟨_, rfl, _, _, rfl, rfl, _, rfl, ?_⟩⟩
          by_cases h : 0 ≤ z
          · refine ifT (decide_eq_true h) ⟨_, rfl, _, _, rfl, rfl, _, w2.h, ll, g2.set w2.f (.inl w2.n), ?_⟩
            rw [st, f, if_pos h]
            exact w2.set
          · refine ifF (decide_eq_false h) ⟨_, w2.h, ll, g2.set w2.f (.inl w2.n), ?_⟩
            rw [st, f, if_neg h]
            exact w2.set
        · rintro G2 ⟨g2, w2⟩
          rw [List.length_map, List.take_length] at w2
          refine ⟨D, _, rfl, SqL.of w2.h, _, rfl, ?_⟩
          have e : okW S w x = ((x.l.map fun z => decide (0 ≤ z) && decide (z < (S : Int))).all id) := by
            unfold okW
            rw [decide_eq_true c1, List.all_map]; rfl
          rw [← e]
          cases e2 : okW S w x with
          | true =>
            refine ifF rfl ?_
            exact ⟨_, _, rfl, g2, all_take hx e2 t⟩
          | false =>
            refine ifT rfl ?_
            rw [all_bad hx e2] at q
            exact q G2 g2
      · refine ifT (by rw [decide_eq_false c1]; rfl) ?_
        have e : okW S w x = false := by unfold okW; rw [decide_eq_false c1]; rfl
        rw [all_bad hx e] at q
        exact q G g
    · rintro σ G ⟨v3, v4, rfl, g, t⟩
      rw [al.1, List.take_length] at t
      rw [t] at q
      exact q G g
def sp_are_middles : Sp := fun vs H Q _ => ∃ (F : Hp) (m : V) (M : Mach) (R S : Nat) (a : Addr) (xs : List V) (C : List Md) (w : Int), vs = [m, .int w, .ref a] ∧ Same F H ∧ Is F m M ∧ MOk M R S ∧ F a = some (.lst xs) ∧ IsAll F xs C ∧ (∀ x ∈ C, x.a.l.length ≤ 100000 ∧ x.d.l.length ≤ 100000) ∧ ∀ F' H', Gr mu0 F H F' H' → Q (.bl (C.all (okM R S w))) H'
theorem ok_are_middles (t : Tx K mg) : FnOk P w K mg base CX0 2 t.a_are_middles t.fd_are_middles ["machine", "width", "middles"] sp_are_middles := by
  refine t.F_are_middles.ok sc_are_middles (fun vs H Q E h => ?_) (fun cdv A outer s H vs Q E hr h => ?_)
  · obtain ⟨F, m, M, R, S, a, xs, C, w, rfl, _⟩ := h
    rfl
  · obtain ⟨F, m, M, R, S, a, xs, C, w, rfl, sF, hm, hM, ha, al, hl, q⟩ := h
    refine ⟨_, (pss_cons (ps_set (i := 3) sc_are_middles.nd rfl (by first | exact Or.inl rfl | exact Or.inr rfl) (pe_callB (id := "len") call_lenQ (by rfl) t.n_len (by decide +kernel) (pa_cons (pe_ix ix_list (pv 0) pe_int (fun _ _ => rfl)) pa_nil)))
      (pss_cons (ps_for PassesOwn.never rfl (pi_list (pv 2)) (pg_tup rfl (pgs_cons (pg_name (i := 4) sc_are_middles.nd rfl (by first | exact Or.inl rfl | exact Or.inr rfl)) (pgs_cons (pg_name (i := 5) sc_are_middles.nd rfl (by first | exact Or.inl rfl | exact Or.inr rfl)) (pgs_cons (pg_name (i := 6) sc_are_middles.nd rfl (by first | exact Or.inl rfl | exact Or.inr rfl)) (pgs_cons (pg_name (i := 7) sc_are_middles.nd rfl (by first | exact Or.inl rfl | exact Or.inr rfl)) pgs_nil))))) (pss_cons (ps_if (pt_not (pt_val (pe_call (ok_are_words t) (hr.mono (by decide)) (by rfl) t.m_are_words t.F_are_words.kp t.b_are_words .nil pass0 (pa_cons (pe_lst (pa_cons (pv 4) (pa_cons (pv 7) pa_nil))) (pa_cons (pv 1) (pa_cons (pv 3) pa_nil)))))) (pss_one (ps_ret pe_bl)) pss_nil)
      (pss_one (ps_if (PW.pt (pw_or (pt_not (pt_chain op_le op_lt pe_int (pv 5) (pe_callB (id := "len") call_lenQ (by rfl) t.n_len (by decide +kernel) (pa_cons (pv 0) pa_nil)))) (pw_or1 (pt_not (pt_chain op_le op_lt pe_int (pv 6) (pv 3)))))) (pss_one (ps_ret pe_bl)) pss_nil))))
      (pss_one (ps_ret pe_bl)))), ?_⟩
    have g0 : Gr mu0 F H F H := Gr.refl sF
    obtain ⟨am, rws, rfl, ham, hrs⟩ := id hm
    have lrs : rws.length = R := hrs.1.trans hM.len
    have hr0 : 0 < M.length := by rw [hM.len]; exact hM.r1
    obtain ⟨v0, h0, ⟨a0, es, rfl, ha0, hes⟩⟩ := hrs.get (List.getElem?_eq_getElem hr0)
    have les : es.length = S := hes.1.trans (hM.row _ (List.getElem_mem hr0))
    refine ⟨_, rfl, am, rws, _, _, rfl, rfl, SqL.of (sF _ _ ham), atI_nat (j := 0) h0, a0, es, rfl, .inl (SqL.of (sF _ _ ha0)), ?_⟩
    rw [les]
    refine ⟨_, rfl, a, rfl, ⟨_, SqL.of (sF _ _ ha)⟩, for_list (K := K) (a := a) (xs := xs) (fun i σ G => ∃ (F1 : Hp) (v4 v5 v6 v7 : Option V), σ = [some (.ref am), some (.int w), some (.ref a), some (.int S), v4, v5, v6, v7] ∧ Gr mu0 F H F1 G ∧ (C.take i).all (okM R S w) = true)
      ⟨F, none, none, none, none, rfl, g0, rfl⟩ (fun i σ G _ ⟨_, _, _, _, _, _, g, _⟩ => SqL.of (g.fh _ _ (g.ff _ _ ha))) ?_ ?_⟩
    · rintro i y σ G hi ⟨F1, v4, v5, v6, v7, rfl, g, t⟩
      obtain ⟨x, hx, ix⟩ := al.get' hi
      have hlx := hl x (List.mem_of_getElem? hx)
      have ix := Is.up ix g.ff
      obtain ⟨p0, x0, x1, x2, x3, rfl, hp, i0, i1, i2, i3⟩ := id ix
      have i1 : x1 = .int x.b := i1
      have i2 : x2 = .int x.c := i2
      subst i1 i2
      refine ⟨p0, _, rfl, SqT.of (g.fh _ _ hp), rfl, _, _, rfl, _, _, rfl, _, _, rfl, _, _, rfl, rfl, ?_⟩
      refine ⟨_, rfl, _, rfl, two_le, fun l nl => ?_⟩
      have g2 := g.new (o := .lst [x0, x3]) nl
      have k2 := ((Gr.refl (mu := mu0) g.fh).new (o := .lst [x0, x3]) nl).ff
      refine ⟨_, rfl, _, rfl, _, l, [x0, x3], [x.a, x.d], w, S, rfl, g2.fh, upd_same, All2.cons (Is.up i0 k2) (All2.one (Is.up i3 k2)), ?_, fun G2 g2' => ?_⟩
      · intro z hz
        rcases List.mem_cons.mp hz with rfl | hz
        · exact hlx.1
        · rw [List.mem_singleton.mp hz]; exact hlx.2
      have g3 := g2.trans g2'
      have bad : okM R S w x = false → ∀ F' H', Gr mu0 F H F' H' → Q (.bl false) H' := fun e F' H' g' => by
        have := q F' H' g'
        rw [all_bad hx e] at this; exact this
      refine ⟨_, rfl, ?_⟩
      cases e1 : [x.a, x.d].all (okW S w) with
      | false =>
        refine ifT rfl ?_
        exact bad (by unfold okM; rw [e1]; rfl) _ _ g3
      | true =>
        refine ifF rfl ?_
        refine ⟨_, rfl, _, _, rfl, rfl, _, rfl, ?_⟩
        by_cases c1 : 0 ≤ x.b
        · refine ifT (decide_eq_true c1) ⟨_, rfl, am, rws, rfl, .inl (SqL.of (g3.fh _ _ (g3.ff _ _ ham))), _, _, rfl, rfl, _, rfl, ?_⟩
          rw [lrs]
          by_cases c2 : x.b < R
          · refine ifF (by rw [decide_eq_true c2]; rfl) ?_
            refine ⟨_, rfl, _, _, rfl, rfl, _, rfl, ?_⟩
            by_cases c3 : 0 ≤ x.c
            · refine ifT (decide_eq_true c3) ⟨_, rfl, _, _, rfl, rfl, _, rfl, ?_⟩
              by_cases c4 : x.c < S
              · refine ifF (by rw [decide_eq_true c4]; rfl) ?_
                exact ⟨_, _, _, _, _, rfl, g3, all_take hx (by unfold okM; rw [e1, decide_eq_true c1, decide_eq_true c2, decide_eq_true c3, decide_eq_true c4]; rfl) t⟩
              · refine ifT (by rw [decide_eq_false c4]; rfl) ?_
                exact bad (by unfold okM; rw [decide_eq_false c4, Bool.and_false, Bool.and_false, Bool.and_false]) _ _ g3
            · refine ifF (decide_eq_false c3) ⟨_, rfl, ?_⟩
              refine ifT rfl ?_
              exact bad (by unfold okM; rw [decide_eq_false c3, Bool.false_and, Bool.and_false, Bool.and_false]) _ _ g3
          · refine ifT (by rw [decide_eq_false c2]; rfl) ?_
            exact bad (by unfold okM; rw [decide_eq_false c2, Bool.and_false, Bool.false_and, Bool.and_false]) _ _ g3
        · refine ifF (decide_eq_false c1) ⟨_, rfl, ?_⟩
          refine ifT rfl ?_
          exact bad (by unfold okM; rw [decide_eq_false c1, Bool.false_and, Bool.false_and, Bool.and_false]) _ _ g3
    · rintro σ G ⟨F1, v4, v5, v6, v7, rfl, g, t⟩
      rw [al.1, List.take_length] at t
      rw [t] at q
      exact q F1 G g
/-! ### what a shut paper must keep -/
def setOf (A B : List Wd) (C : List Md) : SS := ⟨adKs [] A, adKs [] B, adKs [] C⟩
/-- what a shut paper must keep -/
structure ShutOk (M : Mach) (R S : Nat) (w : Int) (A B : List Wd) (C : List Md) : Prop where
  wd : isW S w = true
  c : C.all (okM R S w) = true
  a : A.all (okW S w) = true
  b : B.all (okW S w) = true
  na : nts w.toNat ∈ A
  nb : nts w.toNat ∈ B
  nc : (⟨nts w.toNat, 0, 0, nts w.toNat⟩ : Md) ∈ C
  cl : gall M (setOf A B C) (setOf A B C).C = some (setOf A B C)
theorem setOf_ok {R S k : Nat} {A B : List Wd} {C : List Md} (a : A.all (okW S k) = true) (b : B.all (okW S k) = true) (c : C.all (okM R S k) = true) : SSOk R S k (setOf A B C) := by
  rw [List.all_eq_true] at a b c
  refine ⟨adKs_nd _ List.nodup_nil, adKs_nd _ List.nodup_nil, adKs_nd _ List.nodup_nil, fun x hx => ?_, fun x hx => ?_, fun x hx => ?_⟩
  · exact okW_iff.mp (a x ((mem_adKs.mp hx).resolve_left (fun z => nomatch z)))
  · exact okW_iff.mp (b x ((mem_adKs.mp hx).resolve_left (fun z => nomatch z)))
  · exact okM_iff.mp (c x ((mem_adKs.mp hx).resolve_left (fun z => nomatch z)))
/-- a paper of these lists, as they are, stands at T -/
def PaAt (F : Hp) (T : Addr) (kd : Str) (w : Int) (A B : List Wd) (C : List Md) : Prop := ∃ (a b c : Addr) (xs ys zs : List V), F T = some (.tup [.str kd, .int w, .ref a, .ref b, .ref c]) ∧ F a = some (.lst xs) ∧ F b = some (.lst ys) ∧ F c = some (.lst zs) ∧ IsAll F xs A ∧ IsAll F ys B ∧ IsAll F zs C
/-! ### the looker of shut papers -/
theorem notin_c {α : Type} [Dat α] {K : PySem.W.Frag} {H : Hp} {v w : V} {x : α} {l : List α} {Q : VK} (hx : Is H v x) (hl : Is H w l) (q1 : x ∈ l → Q (.bl false) H) (q2 : x ∉ l → Q (.bl true) H) (hd : Dat.dep α + 1 ≤ 64 := by decide) : rNotInD K v w H Q := by
  refine ⟨Dat.py x, l.map Dat.py, Dat.dp hx, Dat.dp (d := l) hl, ?_, ?_, ?_⟩
  · show (PyData.canLay0 _ && decide _) = true
    rw [Dat.can, decide_eq_true (Nat.le_trans (Dat.depth x) (by omega))]; rfl
  · show (PyData.canLay0 (Dat.py l) && decide ((Dat.py l).depth ≤ 64)) = true
    rw [Dat.can, decide_eq_true (Nat.le_trans (Dat.depth l) hd)]; rfl
  · cases e : ((l.map Dat.py).any fun z => PyData.eqv z (Dat.py x)) with
    | true => exact q1 ((any_eqv x l).mp e)
    | false => exact q2 fun m => by rw [(any_eqv x l).mpr m] at e; cases e
theorem KD.nil {α : Type} [Dat α] {mu : Addr → Prop} {P : Program} {w : World} {F0 H0 F H : Hp} {p : Addr} (g : Gr mu F0 H0 F H) (np : H p = none) : KD P w F (upd H p (DictN P w p [])) p ([] : List α) :=
  ⟨g.free np, [], upd_same, (fun t m => nomatch m), rfl⟩
def sp_shows_shut (P : Program) (w : World) : Sp := fun vs H Q _ => ∃ (F : Hp) (m : V) (M : Mach) (R S : Nat) (T : Addr) (kd : Str) (wi : Int) (A B : List Wd) (C : List Md), vs = [m, .ref T] ∧ Same F H ∧ Is F m M ∧ MOk M R S ∧ PaAt F T kd wi A B C ∧ A.length ≤ 20000 ∧ B.length ≤ 20000 ∧ C.length ≤ 20000 ∧ (∀ x ∈ A, x.l.length ≤ 100000) ∧ (∀ x ∈ B, x.l.length ≤ 100000) ∧ (∀ x ∈ C, x.a.l.length ≤ 100000 ∧ x.d.l.length ≤ 100000) ∧
  (ShutOk M R S wi A B C → ∀ F' H', Gr mu0 F H F' H' → Q (.bl true) H') ∧ (¬ ShutOk M R S wi A B C → ∀ F' H', Gr mu0 F H F' H' → Q (.bl false) H')
theorem ok_shows_shut (t : Tx K mg) : FnOk P w K mg base CX0 4 t.a_shows_shut t.fd_shows_shut ["machine", "paper"] (sp_shows_shut P w) := by
  refine t.F_shows_shut.ok sc_shows_shut (fun vs H Q E h => ?_) (fun cdv A outer s H vs Q E hr h => ?_)
  · obtain ⟨F, m, M, R, S, T, kd, wi, A, B, C, rfl, _⟩ := h
    rfl
  · obtain ⟨F, m, M, R, S, T, kd, wi, LA, LB, LC, rfl, sF, hm, hM, hT, nA, nB, nC, bA, bB, bC, qt, qf⟩ := h
    refine ⟨_, (pss_cons (ps_expr (pe_call (ok_must_machine t) (hr.mono (by decide)) (by rfl) t.m_must_machine t.F_must_machine.kp t.b_must_machine .nil pass0 (pa_cons (pv 0) pa_nil)))
      (pss_cons (ps_asg (pv 1) (pg_tup rfl (pgs_cons (pg_name (i := 2) sc_shows_shut.nd rfl (by first | exact Or.inl rfl | exact Or.inr rfl)) (pgs_cons (pg_name (i := 3) sc_shows_shut.nd rfl (by first | exact Or.inl rfl | exact Or.inr rfl)) (pgs_cons (pg_name (i := 4) sc_shows_shut.nd rfl (by first | exact Or.inl rfl | exact Or.inr rfl)) (pgs_cons (pg_name (i := 5) sc_shows_shut.nd rfl (by first | exact Or.inl rfl | exact Or.inr rfl)) (pgs_cons (pg_name (i := 6) sc_shows_shut.nd rfl (by first | exact Or.inl rfl | exact Or.inr rfl)) pgs_nil)))))))
      (pss_cons (ps_if (PW.pt (pw_or (pt_not (pt_val (pe_call (ok_is_width t) (hr.mono (by decide)) (by rfl) t.m_is_width t.F_is_width.kp t.b_is_width .nil pass0 (pa_cons (pv 0) (pa_cons (pv 3) pa_nil))))) (pw_or1 (pt_not (pt_val (pe_call (ok_are_middles t) (hr.mono (by decide)) (by rfl) t.m_are_middles t.F_are_middles.kp t.b_are_middles .nil pass0 (pa_cons (pv 0) (pa_cons (pv 3) (pa_cons (pv 6) pa_nil))))))))) (pss_one (ps_ret pe_bl)) pss_nil)
      (pss_cons (ps_set (i := 7) sc_shows_shut.nd rfl (by first | exact Or.inl rfl | exact Or.inr rfl) (pe_callB (id := "len") call_lenQ (by rfl) t.n_len (by decide +kernel) (pa_cons (pe_ix ix_list (pv 0) pe_int (fun _ _ => rfl)) pa_nil)))
      (pss_cons (ps_set (i := 8) sc_shows_shut.nd rfl (by first | exact Or.inl rfl | exact Or.inr rfl) (pe_op op_repW (pe_tup (pa_cons pe_int pa_nil)) (pv 3)))
      (pss_cons (ps_if (PW.pt (pw_or (pt_not (pt_val (pe_call (ok_are_words t) (hr.mono (by decide)) (by rfl) t.m_are_words t.F_are_words.kp t.b_are_words .nil pass0 (pa_cons (pv 4) (pa_cons (pv 3) (pa_cons (pv 7) pa_nil)))))) (pw_or1 (pt_not (pt_val (pe_call (ok_are_words t) (hr.mono (by decide)) (by rfl) t.m_are_words t.F_are_words.kp t.b_are_words .nil pass0 (pa_cons (pv 5) (pa_cons (pv 3) (pa_cons (pv 7) pa_nil))))))))) (pss_one (ps_ret pe_bl)) pss_nil)
      (pss_cons (ps_if (PW.pt (pw_or (pt_cmpR (op_notInD (u65 hr)) (pv 8) (pv 4) (by rfl)) (pw_or (pt_cmpR (op_notInD (u65 hr)) (pv 8) (pv 5) (by rfl)) (pw_or1 (pt_cmpR (op_notInD (u65 hr)) (pe_tup (pa_cons (pv 8) (pa_cons pe_int (pa_cons pe_int (pa_cons (pv 8) pa_nil))))) (pv 6) (by rfl)))))) (pss_one (ps_ret pe_bl)) pss_nil)
      (pss_cons (ps_set (i := 9) sc_shows_shut.nd rfl (by first | exact Or.inl rfl | exact Or.inr rfl) pe_nnew)
      (pss_cons (ps_set (i := 10) sc_shows_shut.nd rfl (by first | exact Or.inl rfl | exact Or.inr rfl) pe_nnew)
      (pss_cons (ps_set (i := 11) sc_shows_shut.nd rfl (by first | exact Or.inl rfl | exact Or.inr rfl) pe_nnew)
      (pss_cons (ps_expr (pe_call (ok_put_new t) (hr.mono (by decide)) (by rfl) t.m_put_new t.F_put_new.kp t.b_put_new .nil pass0 (pa_cons (pv 9) (pa_cons (pv 4) pa_nil))))
      (pss_cons (ps_expr (pe_call (ok_put_new t) (hr.mono (by decide)) (by rfl) t.m_put_new t.F_put_new.kp t.b_put_new .nil pass0 (pa_cons (pv 10) (pa_cons (pv 5) pa_nil))))
      (pss_cons (ps_expr (pe_call (ok_put_new t) (hr.mono (by decide)) (by rfl) t.m_put_new t.F_put_new.kp t.b_put_new .nil pass0 (pa_cons (pv 11) (pa_cons (pv 6) pa_nil))))
      (pss_one (ps_ret (pe_cmpR op_is_bn (pe_call (ok_grown t) (hr.mono (by decide)) (by rfl) t.m_grown t.F_grown.kp t.b_grown .nil pass0 (pa_cons (pv 0) (pa_cons (pv 9) (pa_cons (pv 10) (pa_cons (pv 11) pa_nil))))) pe_bl (by rfl))))))))))))))))), ?_⟩
    have g0 : Gr mu0 F H F H := Gr.refl sF
    obtain ⟨ta, tb, tc, xs, ys, zs, hTT, hta, htb, htc, ia, ib, ic⟩ := id hT
    obtain ⟨am, rws, rfl, ham, hrs⟩ := id hm
    have hr0 : 0 < M.length := by rw [hM.len]; exact hM.r1
    obtain ⟨v0, h0, ⟨a0, es, rfl, ha0, hes⟩⟩ := hrs.get (List.getElem?_eq_getElem hr0)
    have les : es.length = S := hes.1.trans (hM.row _ (List.getElem_mem hr0))
    refine ⟨_, rfl, F, .ref am, M, R, S, rfl, sF, hm, hM, fun H1 g1 => ?_⟩
    refine ⟨_, rfl, T, _, rfl, SqT.of (g1.fh _ _ hTT), rfl, _, _, rfl, _, _, rfl, _, _, rfl, _, _, rfl, _, _, rfl, rfl, ?_⟩
    refine ⟨_, rfl, _, rfl, F, .ref am, M, R, S, wi, rfl, g1.fh, hm, hM, _, rfl, ?_⟩
    cases ew : isW S wi with
    | false =>
      refine ifT rfl ?_
      exact qf (fun z => by have := z.wd; rw [ew] at this; cases this) F H1 g1
    | true =>
      refine ifF rfl ?_
      have hw' := of_decide_eq_true ew
      obtain ⟨k, rfl⟩ : ∃ k : Nat, wi = (k : Int) := Int.eq_ofNat_of_zero_le (by omega)
      have kS : S ^ k ≤ 16 := by have := hw'.2.2; rwa [Int.toNat_natCast] at this
      refine ⟨_, rfl, _, rfl, _, rfl, F, .ref am, M, R, S, tc, zs, LC, k, rfl, g1.fh, hm, hM, htc, ic, bC, fun F2 H2 g2' => ?_⟩
      have g2 := g1.trans g2'
      refine ⟨_, rfl, ?_⟩
      cases ec : LC.all (okM R S k) with
      | false =>
        refine ifT rfl ?_
        exact qf (fun z => by have := z.c; rw [ec] at this; cases this) F2 H2 g2
      | true =>
        refine ifF rfl ?_
        refine ⟨_, rfl, am, rws, _, _, rfl, rfl, SqL.of (g2.fh _ _ (g2.ff _ _ ham)), atI_nat (j := 0) h0, a0, es, rfl, .inl (SqL.of (g2.fh _ _ (g2.ff _ _ ha0))), ?_⟩
        rw [les]
        refine ⟨one_le, fun p0 np0 => ⟨_, rfl, ?_⟩⟩
        have g3 := g2.new (o := .tup [.int 0]) np0
        refine rep_wd g3 upd_same (by omega) (by omega) fun F4 H4 c2 g4 k4 hc2 => ?_
        have iA : Is F4 (.ref ta) LA := ⟨ta, xs, rfl, g4.ff _ _ hta, IsAll.up ia g4.ff⟩
        have iB : Is F4 (.ref tb) LB := ⟨tb, ys, rfl, g4.ff _ _ htb, IsAll.up ib g4.ff⟩
        have iC : Is F4 (.ref tc) LC := ⟨tc, zs, rfl, g4.ff _ _ htc, IsAll.up ic g4.ff⟩
        have iw : Is F4 (.ref c2) (nts k) := wd_is hc2
        refine ⟨_, rfl, _, rfl, _, rfl, F4, ta, xs, LA, k, S, rfl, g4.fh, g4.ff _ _ hta, IsAll.up ia g4.ff, bA, fun H5 g5' => ?_⟩
        have g5 := g4.trans g5'
        refine ⟨_, rfl, ?_⟩
        cases ea : LA.all (okW S k) with
        | false =>
          refine ifT rfl ?_
          exact qf (fun z => by have := z.a; rw [ea] at this; cases this) F4 H5 g5
        | true =>
        refine ifF rfl ?_
        refine ⟨_, rfl, _, rfl, _, rfl, F4, tb, ys, LB, k, S, rfl, g5.fh, g5.ff _ _ htb, IsAll.up ib g5.ff, bB, fun H6 g6' => ?_⟩
        have g6 := g5.trans g6'
        refine ⟨_, rfl, ?_⟩
        cases eb : LB.all (okW S k) with
        | false =>
          refine ifT rfl ?_
          exact qf (fun z => by have := z.b; rw [eb] at this; cases this) F4 H6 g6
        | true =>
        refine ifF rfl ?_
        refine ⟨_, rfl, _, rfl, notin_c (x := nts k) (l := LA) (iw.up g6.fh) (Is.up iA g6.fh) (fun mA => ⟨_, rfl, ?_⟩) (fun mA => ⟨_, rfl, ?_⟩)⟩
        case' refine_2 =>
          refine ifT rfl ?_
          exact qf (fun z => mA (by have := z.na; rwa [Int.toNat_natCast] at this)) F4 H6 g6
        refine ifF rfl ?_
        refine ⟨_, rfl, _, rfl, notin_c (x := nts k) (l := LB) (iw.up g6.fh) (Is.up iB g6.fh) (fun mB => ⟨_, rfl, ?_⟩) (fun mB => ⟨_, rfl, ?_⟩)⟩
        case' refine_2 =>
          refine ifT rfl ?_
          exact qf (fun z => mB (by have := z.nb; rwa [Int.toNat_natCast] at this)) F4 H6 g6
        refine ifF rfl ?_
        refine ⟨_, rfl, _, rfl, len4, fun T2 nT2 => ⟨_, rfl, ?_⟩⟩
        have g7 := g6.new (o := .tup [.ref c2, .int 0, .int 0, .ref c2]) nT2
        have k7 := ((Gr.refl (mu := mu0) g6.fh).new (o := .tup [.ref c2, .int 0, .int 0, .ref c2]) nT2).ff
        have im : Is (upd F4 T2 (.tup [.ref c2, .int 0, .int 0, .ref c2])) (.ref T2) (⟨nts k, 0, 0, nts k⟩ : Md) := ⟨T2, _, _, _, _, rfl, upd_same, iw.up k7, rfl, rfl, iw.up k7⟩
        generalize upd F4 T2 (.tup [.ref c2, .int 0, .int 0, .ref c2]) = F7 at g7 k7 im
        change rNotInD _ _ _ (upd H6 T2 (.tup [.ref c2, .int 0, .int 0, .ref c2])) _
        generalize upd H6 T2 (.tup [.ref c2, .int 0, .int 0, .ref c2]) = H7 at g7 ⊢
        refine notin_c (x := (⟨nts k, 0, 0, nts k⟩ : Md)) (l := LC) (Is.up im g7.fh) (Is.up (Is.up iC k7) g7.fh) (fun mC => ⟨_, rfl, ?_⟩) (fun mC => ⟨_, rfl, ?_⟩)
        case' refine_2 =>
          refine ifT rfl ?_
          exact qf (fun z => mC (by have := z.nc; rwa [Int.toNat_natCast] at this)) F7 H7 g7
        refine ifF rfl ?_
        generalize hs1 : List.set _ _ _ = s1
        have es1 : s1 = [some (V.ref am), some (V.ref T), some (V.str kd), some (V.int k), some (V.ref ta), some (V.ref tb), some (V.ref tc), some (V.int S), some (V.ref c2), none, none, none] := hs1.symm
        subst es1
        clear hs1
        have htaF := g7.ff _ _ hta
        have htbF := g7.ff _ _ htb
        have htcF := g7.ff _ _ htc
        have iaF := IsAll.up ia g7.ff
        have ibF := IsAll.up ib g7.ff
        have icF := IsAll.up ic g7.ff
        have hmF := hm.up g7.ff
        rw [cxP, cxW]
        refine fun d1 nd1 => ?_
        have g8 := g7.own (o := DictN P w d1 []) nd1
        have p1 : KD P w F7 _ d1 ([] : List Wd) := KD.nil g7 nd1
        have n1 : H d1 = none := g7.th _ nd1
        generalize upd H7 d1 (DictN P w d1 []) = H8 at g8 p1 ⊢
        refine fun d2 nd2 => ?_
        have g9 := g8.own (o := DictN P w d2 []) nd2
        have p2 : KD P w F7 _ d2 ([] : List Wd) := KD.nil g8 nd2
        have n2 : H d2 = none := g8.th _ nd2
        have n12 : d1 ≠ d2 := by
          obtain ⟨_, L, h1, _⟩ := p1
          exact ne_of_none h1 nd2
        have p1 := p1.gr ((Gr.refl (mu := mu0) g8.fh).own (o := DictN P w d2 []) nd2) (fun z => z)
        change Ends.nx _ _ (upd H8 d2 (DictN P w d2 []))
        generalize upd H8 d2 (DictN P w d2 []) = H9 at g9 p1 p2 ⊢
        refine fun d3 nd3 => ?_
        have g10 := g9.own (o := DictN P w d3 []) nd3
        have p3 : KD P w F7 _ d3 ([] : List Md) := KD.nil g9 nd3
        have n3 : H d3 = none := g9.th _ nd3
        have n13 : d1 ≠ d3 := by
          obtain ⟨_, L, h1, _⟩ := p1
          exact ne_of_none h1 nd3
        have n23 : d2 ≠ d3 := by
          obtain ⟨_, L, h1, _⟩ := p2
          exact ne_of_none h1 nd3
        have kk := (Gr.refl (mu := mu0) g9.fh).own (o := DictN P w d3 []) nd3
        have p1 := p1.gr kk (fun z => z)
        have p2 := p2.gr kk (fun z => z)
        change Ends.nx _ _ (upd H9 d3 (DictN P w d3 []))
        generalize upd H9 d3 (DictN P w d3 []) = H10 at g10 p1 p2 p3 ⊢
        refine ⟨_, rfl, _, rfl, Wd, inferInstance, inferInstance, inferInstance, inferInstance, F7, d1, ta, [], LA, xs, rfl, g10.fh, p1, htaF, iaF, by rw [List.length_nil]; omega, by decide, fun H11 k11 q1 => ?_⟩
        have g11 := g10.thn k11 (fun c e => .inr (by rw [e]; exact n1))
        have p2 := p2.gr k11 (fun e => n12 e.symm)
        have p3 := p3.gr k11 (fun e => n13 e.symm)
        refine ⟨_, rfl, _, rfl, Wd, inferInstance, inferInstance, inferInstance, inferInstance, F7, d2, tb, [], LB, ys, rfl, g11.fh, p2, htbF, ibF, by rw [List.length_nil]; omega, by decide, fun H12 k12 q2 => ?_⟩
        have g12 := g11.thn k12 (fun c e => .inr (by rw [e]; exact n2))
        have q1 := q1.gr k12 (fun e => n12 e)
        have p3 := p3.gr k12 (fun e => n23 e.symm)
        refine ⟨_, rfl, _, rfl, Md, inferInstance, inferInstance, inferInstance, inferInstance, F7, d3, tc, [], LC, zs, rfl, g12.fh, p3, htcF, icF, by rw [List.length_nil]; omega, by decide, fun H13 k13 q3 => ?_⟩
        have g13 := g12.thn k13 (fun c e => .inr (by rw [e]; exact n3))
        have q1 := q1.gr k13 (fun e => n13 e)
        have q2 := q2.gr k13 (fun e => n23 e)
        have so := setOf_ok ea eb ec
        have nx : ∀ c, mu3 d1 d2 d3 c → mu0 c ∨ H c = none := fun c hc => .inr (by rcases hc with rfl | rfl | rfl; exact n1; exact n2; exact n3)
        refine ⟨_, rfl, _, rfl, _, rfl, _, rfl, F7, .ref am, M, R, S, k, d1, d2, d3, setOf LA LB LC, rfl, g13.fh, hmF, hM, by omega, kS, by omega, q1, q2, q3, n12, n13, n23, so, fun hn F14 H14 g14 => ?_, fun s' hs F14 H14 g14 r1 r2 r3 => ?_⟩
        · refine ⟨false, rfl, .inl ⟨rfl, ?_⟩⟩
          exact qf (fun z => by have := z.cl; rw [hn] at this; cases this) F14 H14 (g13.thn g14 nx)
        · refine ⟨false, rfl, .inr ⟨_, rfl, ?_⟩⟩
          by_cases c : (setOf LA LB LC).n < s'.n
          · rw [decide_eq_true c]
            refine qf (fun z => ?_) F14 H14 (g13.thn g14 nx)
            have e := z.cl
            rw [hs] at e
            rw [Option.some.inj e] at c
            exact Nat.lt_irrefl _ c
          · rw [decide_eq_false c]
            have e := gall_same hs c
            rw [e] at hs
            exact qt ⟨ew, ec, ea, eb, by rw [Int.toNat_natCast]; exact mA, by rw [Int.toNat_natCast]; exact mB, by rw [Int.toNat_natCast]; exact mC, hs⟩ F14 H14 (g13.thn g14 nx)
/-! ### shut sets and setups, plainly -/
theorem gall_fix {M : Mach} : ∀ {ms : List Md} {s s' : SS}, gall M s ms = some s' → s'.n ≤ s.n → ∀ m ∈ ms, gstep M s m = some s
  | [], _, _, _, _, m, h => nomatch h
  | x :: ms, s, s', e, l, m, h => by
    unfold gall at e
    cases e1 : gstep M s x with
    | none => rw [e1] at e; cases e
    | some s1 =>
      rw [e1] at e
      have e : gall M s1 ms = some s' := e
      have l1 := gall_len e
      have e1' : gall M s [x] = some s1 := by unfold gall; rw [e1]; rfl
      have es : s1 = s := gall_same e1' (by omega)
      subst es
      rcases List.mem_cons.mp h with rfl | h
      · exact e1
      · exact gall_fix e l m h
/-- nothing more comes -/
structure Closed (M : Mach) (s : SS) : Prop where
  go : ∀ m ∈ s.C, ∃ p w t, entM M m = .go p w t ∧ (w = 1 → nw1 m p ∈ s.A ∧ ∀ y ∈ s.B, y.l.dropLast = m.d.l.drop 1 → mv1 m p t y ∈ s.C) ∧ (w ≠ 1 → nw2 m p ∈ s.B ∧ ∀ y ∈ s.A, y.l.drop 1 = m.a.l.dropLast → mv2 m p t y ∈ s.C)
theorem closed_of {M : Mach} {s : SS} (h : gall M s s.C = some s) : Closed M s := ⟨fun m hm => by
  have e := gall_fix h (Nat.le_refl _) m hm
  unfold gstep at e
  cases ee : entM M m with
  | emp => rw [ee] at e; cases e
  | go p w t =>
    rw [ee] at e
    dsimp only at e
    refine ⟨p, w, t, rfl, fun c => ?_, fun c => ?_⟩
    · rw [if_pos c] at e
      have e := Option.some.inj e
      have eA : adK s.A (nw1 m p) = s.A := congrArg SS.A e
      have eC : adKs s.C (more1 m p t s.B) = s.C := congrArg SS.C e
      refine ⟨by rw [← eA]; exact mem_adK.mpr (.inr rfl), fun y hy hd => ?_⟩
      rw [← eC]
      exact mem_adKs.mpr (.inr (List.mem_map.mpr ⟨y, List.mem_filter.mpr ⟨hy, decide_eq_true hd⟩, rfl⟩))
    · rw [if_neg c] at e
      have e := Option.some.inj e
      have eB : adK s.B (nw2 m p) = s.B := congrArg SS.B e
      have eC : adKs s.C (more2 m p t s.A) = s.C := congrArg SS.C e
      refine ⟨by rw [← eB]; exact mem_adK.mpr (.inr rfl), fun y hy hd => ?_⟩
      rw [← eC]
      exact mem_adKs.mpr (.inr (List.mem_map.mpr ⟨y, List.mem_filter.mpr ⟨hy, decide_eq_true hd⟩, rfl⟩))⟩
theorem Rn.pre {M : Mach} {s0 s : SS} (r : Rn M s0 s) : s0.A <+: s.A ∧ s0.B <+: s.B ∧ s0.C <+: s.C := by
  induction r with
  | refl => exact ⟨List.prefix_refl _, List.prefix_refl _, List.prefix_refl _⟩
  | step _ e ih =>
    obtain ⟨a, b, c⟩ := gall_pre e
    exact ⟨ih.1.trans a, ih.2.1.trans b, ih.2.2.trans c⟩
/-- a stretch of a strip -/
def strt (t : Int → Int) (f : Int) (n : Nat) : List Int := (List.range n).map fun j : Nat => t (f + (j : Int))
theorem strt_congr {t u : Int → Int} {f : Int} {n : Nat} (h : ∀ z, f ≤ z → z < f + n → t z = u z) : strt t f n = strt u f n :=
  List.map_congr_left fun j hj => h _ (by omega) (by have := List.mem_range.mp hj; omega)
theorem strt_succ (t : Int → Int) (f : Int) (n : Nat) : strt t f (n + 1) = strt t f n ++ [t (f + n)] := by
  unfold strt
  rw [List.range_succ, List.map_append]; rfl
theorem strt_cons (t : Int → Int) (f : Int) (n : Nat) : strt t f (n + 1) = t f :: strt t (f + 1) n := by
  unfold strt
  rw [List.range_succ_eq_map, List.map_cons, List.map_map]
  congr 1
  · show t (f + ((0 : Nat) : Int)) = t f
    rw [show f + ((0 : Nat) : Int) = f by omega]
  · refine List.map_congr_left fun j _ => ?_
    show t (f + ((j + 1 : Nat) : Int)) = t (f + 1 + (j : Int))
    rw [show f + ((j + 1 : Nat) : Int) = f + 1 + (j : Int) by omega]
theorem strt_drop (t : Int → Int) (f : Int) (n : Nat) : (strt t f (n + 1)).drop 1 = strt t (f + 1) n := by rw [strt_cons]; rfl
theorem strt_dl (t : Int → Int) (f : Int) (n : Nat) : (strt t f (n + 1)).dropLast = strt t f n := by rw [strt_succ, List.dropLast_concat]
/-- a setup of the law's own -/
structure IC where
  r : Int
  p : Int
  l : List PI
def tp (l : List PI) (z : Int) : Int := (look l z).getD 0
theorem tp_put (l : List PI) (x v y : Int) : tp (put l x v) y = if y = x then v else tp l y := by
  unfold tp
  rw [look_put]
  split <;> rfl
def midI (k : Nat) (c : IC) : Md := ⟨⟨strt (tp c.l) (c.p - k) k⟩, c.r, tp c.l c.p, ⟨strt (tp c.l) (c.p + 1) k⟩⟩
def stp (M : Mach) (c : IC) : Option IC := match entAt M c.r (tp c.l c.p) with
  | .emp => none
  | .go p w t => some ⟨t, c.p + w, put c.l c.p p⟩
/-- all stretches stand among the sets -/
structure Stands (k : Nat) (s : SS) (c : IC) : Prop where
  a : ∀ f : Int, f + k ≤ c.p → (⟨strt (tp c.l) f k⟩ : Wd) ∈ s.A
  b : ∀ f : Int, c.p < f → (⟨strt (tp c.l) f k⟩ : Wd) ∈ s.B
  m : midI k c ∈ s.C
theorem Stands.start {M : Mach} {k : Nat} {s : SS} (r : Rn M (start k) s) : Stands k s ⟨0, 0, []⟩ := by
  obtain ⟨a, b, c⟩ := r.pre
  have e : ∀ f : Int, strt (tp []) f k = List.replicate k 0 := fun f => by
    unfold strt
    rw [List.eq_replicate_iff]
    refine ⟨by rw [List.length_map, List.length_range], fun z hz => ?_⟩
    obtain ⟨j, _, rfl⟩ := List.mem_map.mp hz
    rfl
  refine ⟨fun f _ => ?_, fun f _ => ?_, ?_⟩
  · rw [e]; exact a.subset (List.mem_singleton.mpr rfl)
  · rw [e]; exact b.subset (List.mem_singleton.mpr rfl)
  · unfold midI
    dsimp only
    rw [e, e]; exact c.subset (List.mem_singleton.mpr rfl)
theorem Stands.step {M : Mach} {R S k : Nat} {s : SS} {c : IC} (hM : MOk M R S) (hk : 1 ≤ k) (ok : SSOk R S k s) (cl : Closed M s) (h : Stands k s c) : ∃ p w t, entAt M c.r (tp c.l c.p) = .go p w t ∧ Stands k s ⟨t, c.p + w, put c.l c.p p⟩ := by
  obtain ⟨p, w, t, e, h1, h2⟩ := cl.go _ h.m
  have cm := ok.c _ h.m
  obtain ⟨_, _, _, eo⟩ := ent_of hM cm.b.1 cm.b.2 cm.c.1 cm.c.2
  obtain ⟨o1, o2, o3⟩ := eo.ok _ _ _ e
  refine ⟨p, w, t, e, ?_⟩
  obtain ⟨n, rfl⟩ : ∃ n, k = n + 1 := ⟨k - 1, by omega⟩
  have ne : ∀ z, z ≠ c.p → tp (put c.l c.p p) z = tp c.l z := fun z hz => by rw [tp_put, if_neg hz]
  have at_ : tp (put c.l c.p p) c.p = p := by rw [tp_put, if_pos rfl]
  have cg : ∀ (f : Int) (j : Nat), (f + j ≤ c.p ∨ c.p < f) → strt (tp (put c.l c.p p)) f j = strt (tp c.l) f j := fun f j hf => strt_congr fun z z1 z2 => ne z (by omega)
  rcases o2 with rfl | rfl
  · -- to the left
    obtain ⟨hb, hc⟩ := h2 (by decide)
    have eb : nw2 (midI (n + 1) c) p = ⟨strt (tp (put c.l c.p p)) c.p (n + 1)⟩ := by
      show (⟨p :: (strt (tp c.l) (c.p + 1) (n + 1)).dropLast⟩ : Wd) = _
      rw [strt_dl, strt_cons, at_, cg _ _ (.inr (by omega))]
    refine ⟨fun f hf => ?_, fun f hf => ?_, ?_⟩
    · have hf : f + ((n + 1 : Nat) : Int) ≤ c.p + -1 := hf
      show (⟨strt (tp (put c.l c.p p)) f (n + 1)⟩ : Wd) ∈ s.A
      rw [cg _ _ (.inl (by omega))]
      exact h.a f (by omega)
    · have hf : c.p + -1 < f := hf
      show (⟨strt (tp (put c.l c.p p)) f (n + 1)⟩ : Wd) ∈ s.B
      by_cases x : f = c.p
      · rw [x, ← eb]; exact hb
      · rw [cg _ _ (.inr (by omega))]
        exact h.b f (by omega)
    · have q := hc ⟨strt (tp c.l) (c.p + -1 - ((n + 1 : Nat) : Int)) (n + 1)⟩ (h.a _ (by omega)) (by
        show (strt (tp c.l) (c.p + -1 - ((n + 1 : Nat) : Int)) (n + 1)).drop 1 = (strt (tp c.l) (c.p - ((n + 1 : Nat) : Int)) (n + 1)).dropLast
        rw [strt_drop, strt_dl]
        congr 1; omega)
      have e2 : midI (n + 1) ⟨t, c.p + -1, put c.l c.p p⟩ = mv2 (midI (n + 1) c) p t ⟨strt (tp c.l) (c.p + -1 - ((n + 1 : Nat) : Int)) (n + 1)⟩ := by
        unfold mv2
        rw [eb]
        unfold midI
        dsimp only
        rw [cg (c.p + -1 - ((n + 1 : Nat) : Int)) _ (.inl (by omega)), ne (c.p + -1) (by omega), strt_succ (tp c.l) (c.p - ((n + 1 : Nat) : Int)), List.getLastD_concat, show c.p + -1 + 1 = c.p by omega, show c.p - ((n + 1 : Nat) : Int) + (n : Int) = c.p + -1 by omega]
      rw [e2]; exact q
  · -- to the right
    obtain ⟨ha, hc⟩ := h1 rfl
    have ea : nw1 (midI (n + 1) c) p = ⟨strt (tp (put c.l c.p p)) (c.p + 1 - ((n + 1 : Nat) : Int)) (n + 1)⟩ := by
      show (⟨(strt (tp c.l) (c.p - ((n + 1 : Nat) : Int)) (n + 1)).drop 1 ++ [p]⟩ : Wd) = _
      rw [strt_drop, strt_succ, cg _ _ (.inl (by omega)), show c.p + 1 - ((n + 1 : Nat) : Int) + (n : Int) = c.p by omega, at_, show c.p - ((n + 1 : Nat) : Int) + 1 = c.p + 1 - ((n + 1 : Nat) : Int) by omega]
    refine ⟨fun f hf => ?_, fun f hf => ?_, ?_⟩
    · have hf : f + ((n + 1 : Nat) : Int) ≤ c.p + 1 := hf
      show (⟨strt (tp (put c.l c.p p)) f (n + 1)⟩ : Wd) ∈ s.A
      by_cases x : f = c.p + 1 - ((n + 1 : Nat) : Int)
      · rw [x, ← ea]; exact ha
      · rw [cg _ _ (.inl (by omega))]
        exact h.a f (by omega)
    · have hf : c.p + 1 < f := hf
      show (⟨strt (tp (put c.l c.p p)) f (n + 1)⟩ : Wd) ∈ s.B
      rw [cg _ _ (.inr (by omega))]
      exact h.b f (by omega)
    · have q := hc ⟨strt (tp c.l) (c.p + 1 + 1) (n + 1)⟩ (h.b _ (by omega)) (by
        show (strt (tp c.l) (c.p + 1 + 1) (n + 1)).dropLast = (strt (tp c.l) (c.p + 1) (n + 1)).drop 1
        rw [strt_drop, strt_dl])
      have e2 : midI (n + 1) ⟨t, c.p + 1, put c.l c.p p⟩ = mv1 (midI (n + 1) c) p t ⟨strt (tp c.l) (c.p + 1 + 1) (n + 1)⟩ := by
        unfold mv1
        rw [ea]
        unfold midI
        dsimp only
        rw [cg (c.p + 1 + 1) _ (.inr (by omega)), ne (c.p + 1) (by omega), strt_cons (tp c.l) (c.p + 1)]
        rfl
      rw [e2]; exact q
/-! ### closed sets, plainly -/
theorem adKs_in {α : Type} [DecidableEq α] : ∀ {xs ks : List α}, (∀ x ∈ xs, x ∈ ks) → adKs ks xs = ks
  | [], ks, _ => rfl
  | x :: xs, ks, h => by
    show adKs (adK ks x) xs = ks
    rw [adK_in (h x (List.mem_cons_self ..))]
    exact adKs_in fun y hy => h y (List.mem_cons_of_mem _ hy)
theorem closed_step {M : Mach} {s : SS} (h : Closed M s) {m : Md} (hm : m ∈ s.C) : gstep M s m = some s := by
  obtain ⟨p, w, t, e, h1, h2⟩ := h.go m hm
  unfold gstep
  rw [e]
  dsimp only
  by_cases c : w = 1
  · obtain ⟨a, b⟩ := h1 c
    rw [if_pos c, adK_in a, adKs_in fun x hx => ?_]
    obtain ⟨y, hy, rfl⟩ := List.mem_map.mp hx
    obtain ⟨hy, hd⟩ := List.mem_filter.mp hy
    exact b y hy (of_decide_eq_true hd)
  · obtain ⟨a, b⟩ := h2 c
    rw [if_neg c, adK_in a, adKs_in fun x hx => ?_]
    obtain ⟨y, hy, rfl⟩ := List.mem_map.mp hx
    obtain ⟨hy, hd⟩ := List.mem_filter.mp hy
    exact b y hy (of_decide_eq_true hd)
theorem closed_gall {M : Mach} {s : SS} (h : Closed M s) : ∀ {ms : List Md}, (∀ m ∈ ms, m ∈ s.C) → gall M s ms = some s
  | [], _ => rfl
  | m :: ms, hm => by
    unfold gall
    rw [closed_step h (hm m (List.mem_cons_self ..))]
    exact closed_gall h fun x hx => hm x (List.mem_cons_of_mem _ hx)
/-- all that the one has, the other has -/
structure SSub (s u : SS) : Prop where
  a : ∀ x ∈ s.A, x ∈ u.A
  b : ∀ x ∈ s.B, x ∈ u.B
  c : ∀ x ∈ s.C, x ∈ u.C
theorem gstep_sub {M : Mach} {s s' u : SS} {m : Md} (cl : Closed M u) (h : SSub s u) (hm : m ∈ u.C) (e : gstep M s m = some s') : SSub s' u := by
  obtain ⟨p, w, t, ee, h1, h2⟩ := cl.go m hm
  unfold gstep at e
  rw [ee] at e
  dsimp only at e
  by_cases c : w = 1
  · obtain ⟨ha, hb⟩ := h1 c
    rw [if_pos c] at e
    cases e
    refine ⟨fun x hx => ?_, h.b, fun x hx => ?_⟩
    · rcases mem_adK.mp hx with hx | rfl
      · exact h.a x hx
      · exact ha
    · rcases mem_adKs.mp hx with hx | hx
      · exact h.c x hx
      · obtain ⟨y, hy, rfl⟩ := List.mem_map.mp hx
        obtain ⟨hy, hd⟩ := List.mem_filter.mp hy
        exact hb y (h.b y hy) (of_decide_eq_true hd)
  · obtain ⟨ha, hb⟩ := h2 c
    rw [if_neg c] at e
    cases e
    refine ⟨h.a, fun x hx => ?_, fun x hx => ?_⟩
    · rcases mem_adK.mp hx with hx | rfl
      · exact h.b x hx
      · exact ha
    · rcases mem_adKs.mp hx with hx | hx
      · exact h.c x hx
      · obtain ⟨y, hy, rfl⟩ := List.mem_map.mp hx
        obtain ⟨hy, hd⟩ := List.mem_filter.mp hy
        exact hb y (h.a y hy) (of_decide_eq_true hd)
theorem gall_sub {M : Mach} {u : SS} (cl : Closed M u) : ∀ {ms : List Md} {s : SS}, SSub s u → (∀ m ∈ ms, m ∈ u.C) → ∃ s', gall M s ms = some s' ∧ SSub s' u
  | [], s, h, _ => ⟨s, rfl, h⟩
  | m :: ms, s, h, hm => by
    unfold gall
    have hmu := hm m (List.mem_cons_self ..)
    obtain ⟨p, w, t, ee, _, _⟩ := cl.go m hmu
    cases e : gstep M s m with
    | none =>
      exfalso
      unfold gstep at e
      rw [ee] at e
      dsimp only at e
      split at e <;> cases e
    | some s1 => exact gall_sub cl (gstep_sub cl h hmu e) fun x hx => hm x (List.mem_cons_of_mem _ hx)
theorem Rn.sub {M : Mach} {s0 s u : SS} (cl : Closed M u) (h0 : SSub s0 u) (r : Rn M s0 s) : SSub s u := by
  induction r with
  | refl => exact h0
  | step _ e ih =>
    obtain ⟨s', e', h'⟩ := gall_sub cl ih ih.c
    rw [e] at e'
    cases e'
    exact h'
theorem Rn.some {M : Mach} {s0 s u : SS} (cl : Closed M u) (h0 : SSub s0 u) (r : Rn M s0 s) : gall M s s.C ≠ none := by
  have h := r.sub cl h0
  obtain ⟨s', e', _⟩ := gall_sub cl h h.c
  rw [e']
  exact fun z => nomatch z
theorem Rn.start_sub {M : Mach} {s0 s : SS} (r : Rn M s0 s) : SSub s0 s := by
  obtain ⟨a, b, c⟩ := r.pre
  exact ⟨fun x hx => a.subset hx, fun x hx => b.subset hx, fun x hx => c.subset hx⟩
theorem perm_of_sub {α : Type} {l m : List α} (hl : l.Nodup) (hm : m.Nodup) (h : ∀ x ∈ l, x ∈ m) (h' : ∀ x ∈ m, x ∈ l) : l.Perm m :=
  (List.perm_ext_iff_of_nodup hl hm).mpr fun x => ⟨h x, h' x⟩
theorem le_ltD {α : Type} [Dat α] (a b : α) : PySem.W.dataLe false Dat.py a b = !ltD b a := by
  rw [PySem.W.dataLe_eq]; rfl
theorem sortD_eq {α : Type} [Dat α] [Lk α] {l m : List α} (h : l.Perm m) : sortD l = sortD m := by
  have tr : ∀ a b c : α, PySem.W.dataLe false Dat.py a b = true → PySem.W.dataLe false Dat.py b c = true → PySem.W.dataLe false Dat.py a c = true := fun a b c h k => by
    rw [le_ltD] at h k ⊢
    cases e : ltD c a with
    | false => rfl
    | true =>
      rcases ltD_neg (b := b) e with z | z
      · rw [z] at k; cases k
      · rw [z] at h; cases h
  have to : ∀ a b : α, (PySem.W.dataLe false Dat.py a b || PySem.W.dataLe false Dat.py b a) = true := fun a b => by
    rw [le_ltD, le_ltD]
    cases e : ltD b a with
    | false => rfl
    | true =>
      cases e2 : ltD a b with
      | false => rfl
      | true => have := ltD_tr e e2; rw [ltD_irr] at this; cases this
  have pl := List.pairwise_mergeSort (le := PySem.W.dataLe false Dat.py) tr to l
  have pm := List.pairwise_mergeSort (le := PySem.W.dataLe false Dat.py) tr to m
  refine List.Perm.eq_of_pairwise (le := fun a b => PySem.W.dataLe false Dat.py a b = true) (fun a b _ _ h k => ?_) pl pm (((sortD_perm l).trans h).trans (sortD_perm m).symm)
  rw [le_ltD] at h k
  exact ltD_tot (by simpa using k) (by simpa using h)
theorem mem_sD {α : Type} [Dat α] {l : List α} {x : α} : x ∈ sortD l ↔ x ∈ l := (sortD_perm l).mem_iff
/-! ### five -/
structure T5 (α β γ δ ε : Type) where
  a : α
  b : β
  c : γ
  d : δ
  e : ε
  deriving DecidableEq
instance [Dat α] [Dat β] [Dat γ] [Dat δ] [Dat ε] : Dat (T5 α β γ δ ε) where
  rep := fun H v q => ∃ p x1 x2 x3 x4 x5, v = .ref p ∧ H p = some (.tup [x1, x2, x3, x4, x5]) ∧ Is H x1 q.a ∧ Is H x2 q.b ∧ Is H x3 q.c ∧ Is H x4 q.d ∧ Is H x5 q.e
  mono := fun s h => by
    obtain ⟨p, x1, x2, x3, x4, x5, e, h, i1, i2, i3, i4, i5⟩ := h
    exact ⟨p, x1, x2, x3, x4, x5, e, s _ _ h, Is.up i1 s, Is.up i2 s, Is.up i3 s, Is.up i4 s, Is.up i5 s⟩
  py := fun q => .tuple [Dat.py q.a, Dat.py q.b, Dat.py q.c, Dat.py q.d, Dat.py q.e]
  dp := fun h => by
    obtain ⟨p, x1, x2, x3, x4, x5, rfl, h, i1, i2, i3, i4, i5⟩ := h
    exact .tup (SqT.of h) (.cons (Dat.dp i1) (.cons (Dat.dp i2) (.cons (Dat.dp i3) (.cons (Dat.dp i4) (.cons (Dat.dp i5) .nil)))))
  can := fun q => by
    show (PyData.canLay0 (Dat.py q.a) && (PyData.canLay0 (Dat.py q.b) && (PyData.canLay0 (Dat.py q.c) && (PyData.canLay0 (Dat.py q.d) && (PyData.canLay0 (Dat.py q.e) && true))))) = true
    rw [Dat.can, Dat.can, Dat.can, Dat.can, Dat.can]; rfl
  dep := max (Dat.dep α) (max (Dat.dep β) (max (Dat.dep γ) (max (Dat.dep δ) (Dat.dep ε)))) + 1
  depth := fun q => by
    have h1 := Dat.depth q.a
    have h2 := Dat.depth q.b
    have h3 := Dat.depth q.c
    have h4 := Dat.depth q.d
    have h5 := Dat.depth q.e
    show max (PyData.depth (Dat.py q.a)) (max (PyData.depth (Dat.py q.b)) (max (PyData.depth (Dat.py q.c)) (max (PyData.depth (Dat.py q.d)) (max (PyData.depth (Dat.py q.e)) 0)))) + 1 ≤ _
    omega
  eqv := fun a b => by
    obtain ⟨a1, a2, a3, a4, a5⟩ := a; obtain ⟨b1, b2, b3, b4, b5⟩ := b
    simp [PyData.eqv, PyData.eqvAll, Dat.eqv]
/-! ### closed sets and their papers -/
/-- the same sets -/
theorem sets_eq {R S k : Nat} {s u : SS} (hs : SSOk R S k s) (hu : SSOk R S k u) (h : SSub s u) (h' : SSub u s) : sortD s.A = sortD u.A ∧ sortD s.B = sortD u.B ∧ sortD s.C = sortD u.C := by
  have eA : s.A.Perm u.A := perm_of_sub hs.na hu.na h.a h'.a
  have eB : s.B.Perm u.B := perm_of_sub hs.nb hu.nb h.b h'.b
  refine ⟨?_, ?_, sortD_eq (perm_of_sub hs.nc hu.nc h.c h'.c)⟩
  · exact sortD_eq eA
  · exact sortD_eq eB
theorem Closed.same {M : Mach} {s u : SS} (h : Closed M s) (a : ∀ x, x ∈ u.A ↔ x ∈ s.A) (b : ∀ x, x ∈ u.B ↔ x ∈ s.B) (c : ∀ x, x ∈ u.C ↔ x ∈ s.C) : Closed M u := ⟨fun m hm => by
  obtain ⟨p, w, t, e, h1, h2⟩ := h.go m ((c m).mp hm)
  exact ⟨p, w, t, e, fun x => ⟨(a _).mpr (h1 x).1, fun y hy hd => (c _).mpr ((h1 x).2 y ((b y).mp hy) hd)⟩, fun x => ⟨(b _).mpr (h2 x).1, fun y hy hd => (c _).mpr ((h2 x).2 y ((a y).mp hy) hd)⟩⟩⟩
theorem shut_ok {M : Mach} {R S k : Nat} {s : SS} (hw : isW S k = true) (ok : SSOk R S k s) (st : SSub (start k) s) (cl : Closed M s) : ShutOk M R S k (sortD s.A) (sortD s.B) (sortD s.C) := by
  refine ⟨hw, ?_, ?_, ?_, ?_, ?_, ?_, ?_⟩
  · exact List.all_eq_true.mpr fun x hx => okM_iff.mpr (ok.c x (mem_sD.mp hx))
  · exact List.all_eq_true.mpr fun x hx => okW_iff.mpr (ok.a x (mem_sD.mp hx))
  · exact List.all_eq_true.mpr fun x hx => okW_iff.mpr (ok.b x (mem_sD.mp hx))
  · rw [Int.toNat_natCast]; exact mem_sD.mpr (st.a _ (List.mem_singleton.mpr rfl))
  · rw [Int.toNat_natCast]; exact mem_sD.mpr (st.b _ (List.mem_singleton.mpr rfl))
  · rw [Int.toNat_natCast]; exact mem_sD.mpr (st.c _ (List.mem_singleton.mpr rfl))
  · refine closed_gall (cl.same (fun x => ?_) (fun x => ?_) (fun x => ?_)) (fun m h => h)
    · exact mem_adKs.trans ⟨fun h => mem_sD.mp (h.resolve_left (fun z => nomatch z)), fun h => .inr (mem_sD.mpr h)⟩
    · exact mem_adKs.trans ⟨fun h => mem_sD.mp (h.resolve_left (fun z => nomatch z)), fun h => .inr (mem_sD.mpr h)⟩
    · exact mem_adKs.trans ⟨fun h => mem_sD.mp (h.resolve_left (fun z => nomatch z)), fun h => .inr (mem_sD.mpr h)⟩
abbrev PapS := T5 TStr Int (List Wd) (List Wd) (List Md)
def papOf (k : Nat) (s : SS) : PapS := ⟨tShut, k, sortD s.A, sortD s.B, sortD s.C⟩
theorem ShAt.is {F : Hp} {T : Addr} {k : Nat} {s : SS} (h : ShAt F T k s) : Is F (.ref T) (papOf k s) := by
  obtain ⟨a, b, c, xs, ys, zs, hT, ha, hb, hc, ia, ib, ic⟩ := h
  exact ⟨T, _, _, _, _, _, rfl, hT, rfl, rfl, ⟨a, xs, rfl, ha, ia⟩, ⟨b, ys, rfl, hb, ib⟩, ⟨c, zs, rfl, hc, ic⟩⟩
/-! ### shut papers and setups, plainly -/
theorem Stands.sub {k : Nat} {s : SS} (h : SSub (E.start k) s) : Stands k s ⟨0, 0, []⟩ := by
  have st := Stands.start (M := []) (k := k) (s := E.start k) .refl
  exact ⟨fun f z => h.a _ (st.a f z), fun f z => h.b _ (st.b f z), h.c _ st.m⟩
theorem never_stands {M : Mach} {R S k : Nat} {s : SS} (hM : MOk M R S) (hk : 1 ≤ k) (ok : SSOk R S k s) (cl : Closed M s) (st : Stands k s ⟨0, 0, []⟩) : Never M := by
  have key : ∀ n, ∃ c, stepsC M n = some c ∧ Stands k s ⟨c.r, c.s, c.l⟩ := by
    intro n
    induction n with
    | zero => exact ⟨c0, rfl, st⟩
    | succ n ih =>
      obtain ⟨c, hc, h⟩ := ih
      obtain ⟨p, w, t, e, h'⟩ := h.step hM hk ok cl
      exact ⟨⟨t, c.s + w, put c.l c.s p⟩, by rw [stepsC_next hc]; exact stepC_go e, h'⟩
  intro n
  obtain ⟨c, hc, _⟩ := key n
  exact ⟨c, hc⟩
theorem mem_ad0 {α : Type} [DecidableEq α] {x : α} {l : List α} : x ∈ adKs [] l ↔ x ∈ l := ⟨fun h => (mem_adKs.mp h).resolve_left List.not_mem_nil, fun h => mem_adKs.mpr (.inr h)⟩
theorem never_shut {M : Mach} {R S : Nat} {w : Int} {A B : List Wd} {C : List Md} (hM : MOk M R S) (h : ShutOk M R S w A B C) : Never M := by
  have hw := of_decide_eq_true h.wd
  obtain ⟨k, rfl⟩ : ∃ k : Nat, w = (k : Int) := Int.eq_ofNat_of_zero_le (by omega)
  have na := h.na
  have nb := h.nb
  have nc := h.nc
  rw [Int.toNat_natCast] at na nb nc
  refine never_stands hM (by omega) (setOf_ok h.a h.b h.c) (closed_of h.cl) (Stands.sub ⟨fun x hx => ?_, fun x hx => ?_, fun x hx => ?_⟩)
  · rw [List.mem_singleton.mp hx]; exact mem_ad0.mpr na
  · rw [List.mem_singleton.mp hx]; exact mem_ad0.mpr nb
  · rw [List.mem_singleton.mp hx]; exact mem_ad0.mpr nc
theorem Ends.uniq {M : Mach} {m n : Nat} (h : Ends M m) (k : Ends M n) : m = n := by
  obtain ⟨a, ha, ea⟩ := h
  obtain ⟨b, hb, eb⟩ := k
  rcases Nat.lt_trichotomy m n with l | l | l
  · obtain ⟨c, hc⟩ := stepsC_le hb (show m + 1 ≤ n by omega)
    rw [stepsC_next ha, ea] at hc; cases hc
  · exact l
  · obtain ⟨c, hc⟩ := stepsC_le ha (show n + 1 ≤ m by omega)
    rw [stepsC_next hb, eb] at hc; cases hc
/-! ### papers of all kinds -/
inductive Pap6 where
  | ends (n : Nat)
  | ring (f l : Nat)
  | drift (f l : Nat)
  | back (d : Nat)
  | shut (w : Int) (A B : List Wd) (C : List Md)
  | opn
def Pap6.kd : Pap6 → TStr
  | .ends _ => tEnds
  | .ring _ _ => tRing
  | .drift _ _ => tDrift
  | .back _ => tBack
  | .shut .. => tShut
  | .opn => tOpen
def Pap6At (H : Hp) (T : Addr) : Pap6 → Prop
  | .ends n => H T = some (.tup [.str tEnds.x, .int n])
  | .ring f l => H T = some (.tup [.str tRing.x, .int f, .int l])
  | .drift f l => H T = some (.tup [.str tDrift.x, .int f, .int l])
  | .back d => H T = some (.tup [.str tBack.x, .int d])
  | .shut w A B C => PaAt H T tShut.x w A B C
  | .opn => H T = some (.tup [.str tOpen.x])
theorem PaAt.up {T : Addr} {kd : Str} {w : Int} {A B : List Wd} {C : List Md} {F F' : Hp} (h : PaAt F T kd w A B C) (g : Same F F') : PaAt F' T kd w A B C := by
  obtain ⟨a, b, c, xs, ys, zs, h1, h2, h3, h4, h5, h6, h7⟩ := h
  exact ⟨a, b, c, xs, ys, zs, g _ _ h1, g _ _ h2, g _ _ h3, g _ _ h4, IsAll.up h5 g, IsAll.up h6 g, IsAll.up h7 g⟩
theorem Pap6At.up {F F' : Hp} {T : Addr} {p : Pap6} (h : Pap6At F T p) (s : Same F F') : Pap6At F' T p := by
  cases p with
  | shut w A B C => exact PaAt.up (show PaAt F T tShut.x w A B C from h) s
  | ends n => exact s _ _ h
  | ring f l => exact s _ _ h
  | drift f l => exact s _ _ h
  | back d => exact s _ _ h
  | opn => exact s _ _ h
/-- its first thing is its kind -/
theorem Pap6At.tup {F : Hp} {T : Addr} {p : Pap6} (h : Pap6At F T p) : ∃ xs, F T = some (.tup (.str p.kd.x :: xs)) := by
  cases p with
  | shut w A B C =>
    obtain ⟨a, b, c, xs, ys, zs, h1, _⟩ := h
    exact ⟨_, h1⟩
  | ends n => exact ⟨_, h⟩
  | ring f l => exact ⟨_, h⟩
  | drift f l => exact ⟨_, h⟩
  | back d => exact ⟨_, h⟩
  | opn => exact ⟨_, h⟩
def Pap6.ok (M : Mach) (R S : Nat) : Pap6 → Prop
  | .ends n => Ends M n
  | .ring f l => f < l ∧ SameAt M f l ∧ Goes M l
  | .drift f l => f < l ∧ DriftAt M f l ∧ Goes M l
  | .back d => BackOk M R S d
  | .shut w A B C => ShutOk M R S w A B C
  | .opn => False
def Pap6.small : Pap6 → Prop
  | .ends k => k ≤ 5000
  | .ring f l => f ≤ 5000 ∧ l ≤ 5000
  | .drift f l => f ≤ 5000 ∧ l ≤ 5000
  | .back d => d ≤ 5000
  | .shut _ A B C => A.length ≤ 20000 ∧ B.length ≤ 20000 ∧ C.length ≤ 20000 ∧ (∀ x ∈ A, x.l.length ≤ 100000) ∧ (∀ x ∈ B, x.l.length ≤ 100000) ∧ (∀ x ∈ C, x.a.l.length ≤ 100000 ∧ x.d.l.length ≤ 100000)
  | .opn => True
/-- of the kinds that tell that a machine never ends -/
def Pap6.nv : Pap6 → Prop
  | .ends _ => False
  | .opn => False
  | _ => True
theorem Pap6.never {M : Mach} {R S : Nat} (hM : MOk M R S) {p : Pap6} (h : p.nv) (k : p.ok M R S) : Never M := by
  cases p with
  | ends n => exact h.elim
  | ring f l => exact never_ring hM k.1 k.2.1
  | drift f l => exact never_drift k.1 k.2.1
  | back d => exact never_back hM k
  | shut w A B C => exact never_shut hM k
  | opn => exact h.elim
/-! ### shows, of all kinds -/
def sp_shows : Sp := fun vs H Q _ => ∃ (F : Hp) (m : V) (M : Mach) (R S : Nat) (T : Addr) (p : Pap6), vs = [m, .ref T] ∧ Same F H ∧ Is F m M ∧ MOk M R S ∧ Pap6At F T p ∧ p.small ∧
  ∀ (F' H' : Hp) (r : Bool), Gr mu0 F H F' H' → (r = true ↔ p.ok M R S) → Q (.bl r) H'
theorem ok_shows (t : Tx K mg) : FnOk P w K mg base CX0 6 t.a_shows t.fd_shows ["machine", "paper"] sp_shows := by
  refine t.F_shows.ok sc_shows (fun vs H Q E h => ?_) (fun cdv A outer s H vs Q E hr h => ?_)
  · obtain ⟨F, m, M, R, S, T, p, rfl, _⟩ := h
    rfl
  · obtain ⟨F, m, M, R, S, a, p, rfl, sF, hm, hM, hp, hsm, q⟩ := h
    refine ⟨_, (pss_cons (ps_expr (pe_call (ok_must_machine t) (hr.mono (by decide)) (by rfl) t.m_must_machine t.F_must_machine.kp t.b_must_machine .nil pass0 (pa_cons (pv 0) pa_nil)))
      (pss_cons (ps_if (pt_cmpR op_eq (pe_ix ix_tup (pv 1) pe_int (fun _ _ => rfl)) pe_str (nomark _)) (pss_one (ps_ret (pe_cmpR op_eq (pe_call (ok_ends_behind t) (hr.mono (by decide)) (by rfl) t.m_ends_behind t.F_ends_behind.kp t.b_ends_behind .nil pass0 (pa_cons (pv 0) (pa_cons (pe_ix ix_tup (pv 1) pe_int (fun _ _ => rfl)) pa_nil))) (pe_ix ix_tup (pv 1) pe_int (fun _ _ => rfl)) (nomark _)))) pss_nil)
      (pss_cons (ps_if (pt_cmpR op_eq (pe_ix ix_tup (pv 1) pe_int (fun _ _ => rfl)) pe_str (nomark _)) (pss_one (ps_ret (pe_call (ok_is_ring t) (hr.mono (by decide)) (by rfl) t.m_is_ring t.F_is_ring.kp t.b_is_ring .nil pass0 (pa_cons (pv 0) (pa_cons (pe_ix ix_tup (pv 1) pe_int (fun _ _ => rfl)) (pa_cons (pe_ix ix_tup (pv 1) pe_int (fun _ _ => rfl)) pa_nil)))))) pss_nil)
      (pss_cons (ps_if (pt_cmpR op_eq (pe_ix ix_tup (pv 1) pe_int (fun _ _ => rfl)) pe_str (nomark _)) (pss_one (ps_ret (pe_call (ok_is_drift t) (hr.mono (by decide)) (by rfl) t.m_is_drift t.F_is_drift.kp t.b_is_drift .nil pass0 (pa_cons (pv 0) (pa_cons (pe_ix ix_tup (pv 1) pe_int (fun _ _ => rfl)) (pa_cons (pe_ix ix_tup (pv 1) pe_int (fun _ _ => rfl)) pa_nil)))))) pss_nil)
      (pss_cons (ps_if (pt_cmpR op_eq (pe_ix ix_tup (pv 1) pe_int (fun _ _ => rfl)) pe_str (nomark _)) (pss_one (ps_ret (pe_call (ok_is_back t) (hr.mono (by decide)) (by rfl) t.m_is_back t.F_is_back.kp t.b_is_back .nil pass0 (pa_cons (pv 0) (pa_cons (pe_ix ix_tup (pv 1) pe_int (fun _ _ => rfl)) pa_nil))))) pss_nil)
      (pss_cons (ps_if (pt_cmpR op_eq (pe_ix ix_tup (pv 1) pe_int (fun _ _ => rfl)) pe_str (nomark _)) (pss_one (ps_ret (pe_call (ok_shows_shut t) (hr.mono (by decide)) (by rfl) t.m_shows_shut t.F_shows_shut.kp t.b_shows_shut .nil pass0 (pa_cons (pv 0) (pa_cons (pv 1) pa_nil))))) pss_nil)
      (pss_one (ps_ret pe_bl)))))))), ?_⟩
    refine ⟨_, rfl, F, m, M, R, S, rfl, sF, hm, hM, fun Ha ga => ?_⟩
    have iF : ∀ {A B : Prop} {a b : Str}, ¬ a = b → B → if decide (V.str a = V.str b) = true then A else B := fun h b => by rw [if_neg (ne_str h)]; exact b
    have iT : ∀ {A B : Prop} {a : Str}, A → if decide (V.str a = V.str a) = true then A else B := fun a => by rw [if_pos (decide_eq_true rfl)]; exact a
    cases p with
    | ends n =>
      have ha : F a = some (.tup [.str tEnds.x, .int n]) := hp
      have hA := SqT.of (K := K) (ga.fh _ _ ha)
      refine ⟨_, rfl, a, _, _, _, rfl, rfl, hA, atI_nat (j := 0) rfl, rfl, _, rfl, iT ?_⟩
      refine ⟨_, rfl, _, rfl, a, _, _, _, rfl, rfl, hA, atI_nat (j := 1) rfl, F, m, M, R, S, n, rfl, ga.fh, hm, hM, hsm, fun F1 H1 k c g1 go => ?_⟩
      refine ⟨_, rfl, a, _, _, _, rfl, rfl, SqT.of (g1.fh _ _ (g1.ff _ _ ha)), atI_nat (j := 1) rfl, ?_⟩
      have ei := ends_iff go (Nat.le_refl n)
      by_cases e : entOf M c = Ent.emp
      · rw [if_pos e]
        refine ⟨rfl, q _ _ _ (ga.trans g1) ⟨fun z => ei.mpr ⟨e, ?_⟩, fun z => decide_eq_true ?_⟩⟩
        · have := V.int.inj (of_decide_eq_true z); omega
        · rw [(ei.mp z).2]
      · rw [if_neg e]
        refine ⟨rfl, q _ _ _ (ga.trans g1) ⟨fun z => absurd (of_decide_eq_true z) (fun z => nomatch z), fun z => absurd (ei.mp z).1 e⟩⟩
    | ring f l =>
      have ha : F a = some (.tup [.str tRing.x, .int f, .int l]) := hp
      have hA := SqT.of (K := K) (ga.fh _ _ ha)
      refine ⟨_, rfl, a, _, _, _, rfl, rfl, hA, atI_nat (j := 0) rfl, rfl, _, rfl, iF (by decide +kernel) ?_⟩
      refine ⟨_, rfl, a, _, _, _, rfl, rfl, hA, atI_nat (j := 0) rfl, rfl, _, rfl, iT ?_⟩
      refine ⟨_, rfl, _, rfl, a, _, _, _, rfl, rfl, hA, atI_nat (j := 1) rfl, _, rfl, a, _, _, _, rfl, rfl, hA, atI_nat (j := 2) rfl, F, m, M, R, S, f, l, rfl, ga.fh, hm, hM, hsm.2, fun F1 H1 r g1 hr' => ?_⟩
      exact q _ _ r (ga.trans g1) hr'
    | drift f l =>
      have ha : F a = some (.tup [.str tDrift.x, .int f, .int l]) := hp
      have hA := SqT.of (K := K) (ga.fh _ _ ha)
      refine ⟨_, rfl, a, _, _, _, rfl, rfl, hA, atI_nat (j := 0) rfl, rfl, _, rfl, iF (by decide +kernel) ?_⟩
      refine ⟨_, rfl, a, _, _, _, rfl, rfl, hA, atI_nat (j := 0) rfl, rfl, _, rfl, iF (by decide +kernel) ?_⟩
      refine ⟨_, rfl, a, _, _, _, rfl, rfl, hA, atI_nat (j := 0) rfl, rfl, _, rfl, iT ?_⟩
      refine ⟨_, rfl, _, rfl, a, _, _, _, rfl, rfl, hA, atI_nat (j := 1) rfl, _, rfl, a, _, _, _, rfl, rfl, hA, atI_nat (j := 2) rfl, F, m, M, R, S, f, l, rfl, ga.fh, hm, hM, hsm.2, fun F1 H1 r g1 hr' => ?_⟩
      exact q _ _ r (ga.trans g1) hr'
    | back d =>
      have ha : F a = some (.tup [.str tBack.x, .int d]) := hp
      have hA := SqT.of (K := K) (ga.fh _ _ ha)
      refine ⟨_, rfl, a, _, _, _, rfl, rfl, hA, atI_nat (j := 0) rfl, rfl, _, rfl, iF (by decide +kernel) ?_⟩
      refine ⟨_, rfl, a, _, _, _, rfl, rfl, hA, atI_nat (j := 0) rfl, rfl, _, rfl, iF (by decide +kernel) ?_⟩
      refine ⟨_, rfl, a, _, _, _, rfl, rfl, hA, atI_nat (j := 0) rfl, rfl, _, rfl, iF (by decide +kernel) ?_⟩
      refine ⟨_, rfl, a, _, _, _, rfl, rfl, hA, atI_nat (j := 0) rfl, rfl, _, rfl, iT ?_⟩
      exact ⟨_, rfl, _, rfl, a, _, _, _, rfl, rfl, hA, atI_nat (j := 1) rfl, F, m, M, R, S, d, rfl, ga.fh, hm, hM, fun F' H' b g hb => q F' H' b (ga.trans g) hb⟩
    | shut wi A B C =>
      have ha : PaAt F a tShut.x wi A B C := hp
      obtain ⟨ta, tb, tc, xs, ys, zs, hTT, _⟩ := id ha
      have hA := SqT.of (K := K) (ga.fh _ _ hTT)
      obtain ⟨nA, nB, nC, bA, bB, bC⟩ := hsm
      refine ⟨_, rfl, a, _, _, _, rfl, rfl, hA, atI_nat (j := 0) rfl, rfl, _, rfl, iF (by decide +kernel) ?_⟩
      refine ⟨_, rfl, a, _, _, _, rfl, rfl, hA, atI_nat (j := 0) rfl, rfl, _, rfl, iF (by decide +kernel) ?_⟩
      refine ⟨_, rfl, a, _, _, _, rfl, rfl, hA, atI_nat (j := 0) rfl, rfl, _, rfl, iF (by decide +kernel) ?_⟩
      refine ⟨_, rfl, a, _, _, _, rfl, rfl, hA, atI_nat (j := 0) rfl, rfl, _, rfl, iF (by decide +kernel) ?_⟩
      refine ⟨_, rfl, a, _, _, _, rfl, rfl, hA, atI_nat (j := 0) rfl, rfl, _, rfl, iT ?_⟩
      exact ⟨_, rfl, _, rfl, F, m, M, R, S, a, tShut.x, wi, A, B, C, rfl, ga.fh, hm, hM, ha, nA, nB, nC, bA, bB, bC, fun z F' H' g => q F' H' true (ga.trans g) ⟨fun _ => z, fun _ => rfl⟩, fun z F' H' g => q F' H' false (ga.trans g) ⟨fun y => (nomatch y), fun y => absurd y z⟩⟩
    | opn =>
      have ha : F a = some (.tup [.str tOpen.x]) := hp
      have hA := SqT.of (K := K) (ga.fh _ _ ha)
      refine ⟨_, rfl, a, _, _, _, rfl, rfl, hA, atI_nat (j := 0) rfl, rfl, _, rfl, iF (by decide +kernel) ?_⟩
      refine ⟨_, rfl, a, _, _, _, rfl, rfl, hA, atI_nat (j := 0) rfl, rfl, _, rfl, iF (by decide +kernel) ?_⟩
      refine ⟨_, rfl, a, _, _, _, rfl, rfl, hA, atI_nat (j := 0) rfl, rfl, _, rfl, iF (by decide +kernel) ?_⟩
      refine ⟨_, rfl, a, _, _, _, rfl, rfl, hA, atI_nat (j := 0) rfl, rfl, _, rfl, iF (by decide +kernel) ?_⟩
      refine ⟨_, rfl, a, _, _, _, rfl, rfl, hA, atI_nat (j := 0) rfl, rfl, _, rfl, iF (by decide +kernel) ?_⟩
      exact q _ _ false ga ⟨fun y => (nomatch y), fun y => y.elim⟩
/-! ### what a machine is sorted as -/
/-- no end behind so many steps -/
def NoE (M : Mach) (n : Nat) : Prop := ∀ k, k ≤ n → ¬ Ends M k
theorem NoE.goes {M : Mach} {n : Nat} (h : NoE M n) : ∀ k, k ≤ n → Goes M k := by
  intro k
  induction k with
  | zero =>
    intro _
    refine ⟨c0, rfl, fun e => h 0 (Nat.zero_le _) ⟨c0, rfl, e⟩⟩
  | succ k ih =>
    intro hk
    obtain ⟨c, hc, e⟩ := ih (by omega)
    cases d : stepC M c with
    | none => exact absurd d e
    | some c' =>
      have hc' : stepsC M (k + 1) = some c' := by rw [stepsC_next hc]; exact d
      exact ⟨c', hc', fun e => h _ hk ⟨c', hc', e⟩⟩
theorem NoE.known {M : Mach} {n m k : Nat} {c : Cfg} (h : NoE M m) (nm : n ≤ m) (go : Gone M n k c) : E.known M k c = n + 1 := by
  have ne : entOf M c ≠ .emp := fun e => h k (Nat.le_trans go.le nm) ⟨c, go.stp, stepC_none.mpr e⟩
  unfold E.known
  rw [if_neg ne]
  rcases go.fin with e | e
  · exact absurd (stepC_none.mp e) ne
  · rw [e]
def ShutP (M : Mach) (S : Nat) : Option (Nat × SS) → Prop
  | none => ∀ k : Nat, isW S k = true → ∃ s, Rn M (start k) s ∧ gall M s s.C = none
  | some (k, s) => isW S k = true ∧ Rn M (start k) s ∧ gall M s s.C = some s ∧ ∀ j : Nat, 1 ≤ j → j < k → ∃ u, Rn M (start j) u ∧ gall M u u.C = none
theorem isW_le {S : Nat} {j k : Nat} (hS : 1 ≤ S) (h : isW S (k : Int) = true) (j1 : 1 ≤ j) (jk : j ≤ k) : isW S (j : Int) = true := by
  have h := of_decide_eq_true h
  rw [Int.toNat_natCast] at h
  refine decide_eq_true ⟨by omega, by omega, ?_⟩
  rw [Int.toNat_natCast]
  exact Nat.le_trans (Nat.pow_le_pow_right hS jk) h.2.2
def sp_shut_paper : Sp := fun vs H Q _ => ∃ (F : Hp) (m : V) (M : Mach) (R S : Nat), vs = [m] ∧ Same F H ∧ Is F m M ∧ MOk M R S ∧
  (ShutP M S none → ∀ F' H', Gr mu0 F H F' H' → Q .non H') ∧
  (∀ k s, ShutP M S (some (k, s)) → ∀ F' H' T, Gr mu0 F H F' H' → ShO H F' H' T k s → Q (.ref T) H')
theorem ok_shut_paper (t : Tx K mg) : FnOk P w K mg base CX0 4 t.a_shut_paper t.fd_shut_paper ["machine"] sp_shut_paper := by
  refine t.F_shut_paper.ok sc_shut_paper (fun vs H Q E h => ?_) (fun cdv A outer s H vs Q E hr h => ?_)
  · obtain ⟨F, m, M, R, S, rfl, _⟩ := h
    rfl
  · obtain ⟨F, m, M, R, S, rfl, sF, hm, hM, qn, qs⟩ := h
    refine ⟨_, (pss_cons (ps_set (i := 1) sc_shut_paper.nd rfl (by first | exact Or.inl rfl | exact Or.inr rfl) pe_int)
      (pss_cons (ps_while PassesOwn.never (pt_val (pe_call (ok_is_width t) (hr.mono (by decide)) (by rfl) t.m_is_width t.F_is_width.kp t.b_is_width .nil pass0 (pa_cons (pv 0) (pa_cons (pv 1) pa_nil)))) (pss_cons (ps_set (i := 2) sc_shut_paper.nd rfl (by first | exact Or.inl rfl | exact Or.inr rfl) (pe_call (ok_least_told t) (hr.mono (by decide)) (by rfl) t.m_least_told t.F_least_told.kp t.b_least_told .nil pass0 (pa_cons (pv 0) (pa_cons (pv 1) pa_nil))))
      (pss_cons (ps_if (pt_cmpR op_notN (pv 2) pe_non (nomark _)) (pss_one (ps_ret (pv 2))) pss_nil)
      (pss_one (ps_aug (i := 1) sc_shut_paper.nd rfl (by first | exact Or.inl rfl | exact Or.inr rfl) pe_int ip_add)))))
      (pss_one (ps_ret pe_non)))), ?_⟩
    have g0 : Gr mu0 F H F H := Gr.refl sF
    have s2 := hM.s2
    refine ⟨fun j σ G => ∃ (F5 : Hp) (k : Nat) (v2 : Option V), j = 20 - k ∧ σ = [some m, some (.int k), v2] ∧ Gr mu0 F H F5 G ∧ 1 ≤ k ∧ k ≤ 17 ∧ ∀ i : Nat, 1 ≤ i → i < k → isW S (i : Int) = true ∧ ∃ u, Rn M (start i) u ∧ gall M u u.C = none,
      ⟨_, F, 1, none, rfl, rfl, g0, Nat.le_refl _, by decide, fun i h1 h2 => by omega⟩, ?_⟩
    rintro j σ G ⟨F5, k, v2, rfl, rfl, g, k1, k17, all⟩
    refine ⟨_, rfl, _, rfl, F5, m, M, R, S, k, rfl, g.fh, hm.up g.ff, hM, ⟨_, rfl, ?_⟩⟩
    cases ew : isW S (k : Int) with
    | false =>
      refine ifF rfl ?_
      refine qn (fun i hi => ?_) F5 G g
      by_cases c : i < k
      · exact (all i (by have := of_decide_eq_true hi; omega) c).2
      · rw [isW_le (by omega) hi k1 (by omega)] at ew; cases ew
    | true =>
      refine ifT rfl ?_
      have hw := of_decide_eq_true ew
      rw [Int.toNat_natCast] at hw
      refine ⟨_, fun _ _ h => h, ?_⟩
      refine ⟨_, rfl, _, rfl, F5, m, M, R, S, k, rfl, g.fh, hm.up g.ff, hM, k1, hw.2.2, by omega, fun u ru eu F6 H6 g6 => ?_, fun u ru eu F6 H6 T g6 sh => ?_⟩
      · refine ⟨_, rfl, rfl, _, rfl, ifF (by decide) ?_⟩
        refine ⟨_, rfl, _, _, rfl, rfl, 20 - (k + 1), by omega, F6, k + 1, _, rfl, rfl, g.trans g6, by omega, by omega, fun i h1 h2 => ?_⟩
        by_cases c : i < k
        · exact all i h1 c
        · have : i = k := by omega
          subst this
          exact ⟨ew, u, ru, eu⟩
      · refine ⟨_, rfl, rfl, _, rfl, ifT (by simp) ?_⟩
        exact ⟨_, rfl, qs k u ⟨ew, ru, eu, fun i h1 h2 => (all i h1 h2).2⟩ F6 H6 T (g.trans g6) (ShO_back sh g)⟩
/-- what it is sorted as, but for shut sets -/
def Srt (M : Mach) (R S : Nat) : Pap6 → Prop
  | .ends n => Ends M n ∧ n ≤ 200
  | .ring f l => NoE M 200 ∧ RingOf M 61 (some (f, l))
  | .drift f l => NoE M 200 ∧ RingOf M 61 none ∧ FirstOf (DriftAt M) 61 (some (f, l))
  | .back d => NoE M 200 ∧ RingOf M 61 none ∧ FirstOf (DriftAt M) 61 none ∧ ShutP M S none ∧ LeastB M R S 8 (some d)
  | .opn => NoE M 200 ∧ RingOf M 61 none ∧ FirstOf (DriftAt M) 61 none ∧ ShutP M S none ∧ LeastB M R S 8 none
  | .shut .. => False
def SrtS (M : Mach) (S k : Nat) (s : SS) : Prop := NoE M 200 ∧ RingOf M 61 none ∧ FirstOf (DriftAt M) 61 none ∧ ShutP M S (some (k, s))
def sp_sorted : Sp := fun vs H Q _ => ∃ (F : Hp) (m : V) (M : Mach) (R S : Nat), vs = [m] ∧ Same F H ∧ Is F m M ∧ MOk M R S ∧
  (∀ p, Srt M R S p → ∀ F' H' T, Gr mu0 F H F' H' → Pap6At F' T p → Q (.ref T) H') ∧
  (∀ k s, SrtS M S k s → ∀ F' H' T, Gr mu0 F H F' H' → ShO H F' H' T k s → Q (.ref T) H')
theorem ok_sorted_as (t : Tx K mg) : FnOk P w K mg base CX0 7 t.a_sorted_as t.fd_sorted_as ["machine"] sp_sorted := by
  refine t.F_sorted_as.ok sc_sorted_as (fun vs H Q E h => ?_) (fun cdv A outer s H vs Q E hr h => ?_)
  · obtain ⟨F, m, M, R, S, rfl, _⟩ := h
    rfl
  · obtain ⟨F, m, M, R, S, rfl, sF, hm, hM, qp, qs⟩ := h
    refine ⟨_, (pss_cons (ps_asg (pe_call (ok_run t) (hr.mono (by decide)) (by rfl) t.m_run t.F_run.kp t.b_run .nil pass0 (pa_cons (pv 0) (pa_cons (pe_glob (v := .int 200) (by rfl) t.m_MOST_STEPS ⟨_, rfl⟩) pa_nil))) (pg_tup rfl (pgs_cons (pg_name (i := 1) sc_sorted_as.nd rfl (by first | exact Or.inl rfl | exact Or.inr rfl)) (pgs_cons (pg_name (i := 2) sc_sorted_as.nd rfl (by first | exact Or.inl rfl | exact Or.inr rfl)) (pgs_cons (pg_name (i := 3) sc_sorted_as.nd rfl (by first | exact Or.inl rfl | exact Or.inr rfl)) pgs_nil)))))
      (pss_cons (ps_if (pt_cmpR op_eq (pv 1) pe_str (nomark _)) (pss_one (ps_ret (pe_tup (pa_cons pe_str (pa_cons (pv 2) pa_nil))))) pss_nil)
      (pss_cons (ps_for PassesOwn.never rfl (pi_list (pe_lst (pa_cons (pe_call (ok_ring t) (hr.mono (by decide)) (by rfl) t.m_ring t.F_ring.kp t.b_ring .nil pass0 (pa_cons (pv 0) (pa_cons (pe_glob (v := .int 60) (by rfl) t.m_MOST_LOOKED ⟨_, rfl⟩) pa_nil))) (pa_cons (pe_call (ok_drift t) (hr.mono (by decide)) (by rfl) t.m_drift t.F_drift.kp t.b_drift .nil pass0 (pa_cons (pv 0) (pa_cons (pe_glob (v := .int 60) (by rfl) t.m_MOST_LOOKED ⟨_, rfl⟩) pa_nil))) pa_nil)))) (pg_name (i := 4) sc_sorted_as.nd rfl (by first | exact Or.inl rfl | exact Or.inr rfl)) (pss_one (ps_if (pt_cmpR op_notN (pv 4) pe_non (nomark _)) (pss_one (ps_ret (pv 4))) pss_nil)))
      (pss_cons (ps_set (i := 4) sc_sorted_as.nd rfl (by first | exact Or.inl rfl | exact Or.inr rfl) (pe_call (ok_shut_paper t) (hr.mono (by decide)) (by rfl) t.m_shut_paper t.F_shut_paper.kp t.b_shut_paper .nil pass0 (pa_cons (pv 0) pa_nil)))
      (pss_cons (ps_if (pt_cmpR op_isN (pv 4) pe_non (nomark _)) (pss_one (ps_set (i := 4) sc_sorted_as.nd rfl (by first | exact Or.inl rfl | exact Or.inr rfl) (pe_call (ok_no_back t) (hr.mono (by decide)) (by rfl) t.m_no_back t.F_no_back.kp t.b_no_back .nil pass0 (pa_cons (pv 0) (pa_cons (pe_glob (v := .int 8) (by rfl) t.m_MOST_DEEP ⟨_, rfl⟩) pa_nil))))) pss_nil)
      (pss_cons (ps_if (pt_cmpR op_isN (pv 4) pe_non (nomark _)) (pss_one (ps_ret (pe_tup (pa_cons pe_str pa_nil)))) pss_nil)
      (pss_one (ps_ret (pv 4))))))))), ?_⟩
    have g0 : Gr mu0 F H F H := Gr.refl sF
    refine ⟨_, rfl, F, m, M, R, S, 200, rfl, sF, hm, hM, by decide, fun F1 H1 l u v xs k c g1 go wl il wu wv => ?_⟩
    refine ⟨v, _, rfl, SqT.of wv.h, rfl, _, _, rfl, _, _, rfl, _, _, rfl, rfl, ?_⟩
    by_cases e : entOf M c = .emp
    · have ea : (dueOf M 200 k c).a = tEnds := by unfold dueOf; rw [if_pos e]
      have eb : (dueOf M 200 k c).b = k := by unfold dueOf; rw [if_pos e]
      rw [ea, eb]
      refine ⟨_, rfl, rfl, _, rfl, ifT (decide_eq_true rfl) ⟨_, rfl, two_le, fun T nT => ?_⟩⟩
      exact qp (.ends k) ⟨⟨c, go.stp, stepC_none.mpr e⟩, go.le⟩ _ _ T (g1.new nT) upd_same
    have ea : (dueOf M 200 k c).a = tOn := by unfold dueOf; rw [if_neg e]
    have noE : NoE M 200 := fun j hj ⟨d, hd, ed⟩ => by
      have := (ends_iff go hj).mp ⟨d, hd, ed⟩
      exact e this.1
    rw [ea]
    refine ⟨_, rfl, rfl, _, rfl, ifF (decide_eq_false (by decide +kernel)) ?_⟩
    clear wl il wu wv
    generalize hs1 : List.set _ _ _ = s1
    obtain ⟨w1, w2, w3, es1⟩ : ∃ w1 w2 w3 : Option V, s1 = [some m, w1, w2, w3, none] := ⟨_, _, _, hs1.symm⟩
    subst es1
    clear hs1
    have hm1 := hm.up g1.ff
    refine ⟨_, rfl, F1, m, M, R, S, 60, rfl, g1.fh, hm1, hM, by decide, fun F2 H2 v2 k2 c2 o2 g2 go2 ro i2 => ?_⟩
    rw [noE.known (by decide) go2] at ro
    have t2 := g1.trans g2
    refine ⟨_, rfl, F2, m, M, R, S, 60, rfl, t2.fh, hm1.up g2.ff, hM, by decide, fun F3 H3 v3 k3 c3 o3 g3 go3 dr i3 => ?_⟩
    rw [noE.known (by decide) go3] at dr
    have t3 := t2.trans g3
    refine ⟨two_le, fun L nL => ?_⟩
    have t4 := t3.new (o := .lst [v2, v3]) nL
    have hL : (upd F3 L (.lst [v2, v3])) L = some (.lst [v2, v3]) := upd_same
    have k4 := ((Gr.refl (mu := mu0) t3.fh).new (o := .lst [v2, v3]) nL).ff
    have i2 := (i2.up g3.ff).up k4
    have i3 := i3.up k4
    have hm4 := hm.up t4.ff
    generalize upd F3 L (.lst [v2, v3]) = F4 at t4 hL i2 i3 hm4
    change ∃ a, V.ref L = V.ref a ∧ (∃ xs_1, SqL K (upd H3 L (.lst [v2, v3])) a xs_1) ∧ _
    generalize upd H3 L (.lst [v2, v3]) = H4 at t4 ⊢
    refine ⟨L, rfl, ⟨_, SqL.of (t4.fh _ _ hL)⟩, for_list (K := K) (a := L) (xs := [v2, v3]) (fun i σ G => ∃ v4, σ = [some m, w1, w2, w3, v4] ∧ G = H4 ∧ (1 ≤ i → v2 = .non) ∧ (2 ≤ i → v3 = .non))
      ⟨none, rfl, rfl, fun z => absurd z (by decide), fun z => absurd z (by decide)⟩ (fun i σ G _ ⟨_, _, e, _⟩ => by rw [e]; exact SqL.of (t4.fh _ _ hL)) ?_ ?_⟩
    · rintro i y σ G hi ⟨v4, rfl, rfl, a1, a2⟩
      match i, hi with
      | 0, hi =>
        cases hi
        cases o2 with
        | none =>
          obtain rfl : v2 = .non := i2
          exact ⟨_, rfl, rfl, _, rfl, ifF (by decide) ⟨_, rfl, rfl, fun _ => rfl, fun z => absurd z (by decide)⟩⟩
        | some fl =>
          obtain ⟨f, l⟩ := fl
          obtain ⟨T, x1, x2, x3, rfl, hT, e1, e2, e3⟩ := (show Is F4 v2 (⟨tRing, (f : Int), (l : Int)⟩ : T3 TStr Int Int) from i2)
          obtain rfl : x1 = .str tRing.x := e1
          obtain rfl : x2 = .int f := e2
          obtain rfl : x3 = .int l := e3
          refine ⟨_, rfl, rfl, _, rfl, ifT (by simp) ⟨_, rfl, ?_⟩⟩
          exact qp (.ring f l) ⟨noE, ro⟩ F4 G T t4 hT
      | 1, hi =>
        cases hi
        obtain rfl := a1 (Nat.le_refl _)
        cases o3 with
        | none =>
          obtain rfl : v3 = .non := i3
          exact ⟨_, rfl, rfl, _, rfl, ifF (by decide) ⟨_, rfl, rfl, fun _ => rfl, fun _ => rfl⟩⟩
        | some fl =>
          obtain ⟨f, l⟩ := fl
          obtain ⟨T, x1, x2, x3, rfl, hT, e1, e2, e3⟩ := (show Is F4 v3 (⟨tDrift, (f : Int), (l : Int)⟩ : T3 TStr Int Int) from i3)
          obtain rfl : x1 = .str tDrift.x := e1
          obtain rfl : x2 = .int f := e2
          obtain rfl : x3 = .int l := e3
          refine ⟨_, rfl, rfl, _, rfl, ifT (by simp) ⟨_, rfl, ?_⟩⟩
          have ro' : RingOf M 61 none := by
            cases o2 with
            | none => exact ro
            | some fl =>
              obtain ⟨T, x1, x2, x3, e, _⟩ := (show Is F4 V.non (⟨tRing, (fl.1 : Int), (fl.2 : Int)⟩ : T3 TStr Int Int) from i2)
              cases e
          exact qp (.drift f l) ⟨noE, ro', dr⟩ F4 G T t4 hT
      | i + 2, hi => simp at hi
    · rintro σ G ⟨v4, rfl, rfl, a1, a2⟩
      obtain rfl := a1 (by show 1 ≤ 2; decide)
      obtain rfl := a2 (by show 2 ≤ 2; decide)
      have ro' : RingOf M 61 none := by
        cases o2 with
        | none => exact ro
        | some fl =>
          obtain ⟨T, x1, x2, x3, e, _⟩ := (show Is F4 V.non (⟨tRing, (fl.1 : Int), (fl.2 : Int)⟩ : T3 TStr Int Int) from i2)
          cases e
      have dr' : FirstOf (DriftAt M) 61 none := by
        cases o3 with
        | none => exact dr
        | some fl =>
          obtain ⟨T, x1, x2, x3, e, _⟩ := (show Is F4 V.non (⟨tDrift, (fl.1 : Int), (fl.2 : Int)⟩ : T3 TStr Int Int) from i3)
          cases e
      refine ⟨_, rfl, F4, m, M, R, S, rfl, t4.fh, hm4, hM, fun sn F5 H5 g5 => ?_, fun k s sp F5 H5 T g5 sh => ?_⟩
      · have t5 := t4.trans g5
        refine ⟨_, rfl, rfl, _, rfl, ifT (by decide) ?_⟩
        refine ⟨_, rfl, F5, m, M, R, S, 8, rfl, t5.fh, hm4.up g5.ff, hM, by decide, fun F6 H6 v6 o6 g6 lb i6 => ?_⟩
        have t6 := t5.trans g6
        cases o6 with
        | none =>
          obtain rfl : v6 = .non := i6
          refine ⟨_, rfl, rfl, _, rfl, ifT (by decide) ⟨one_le, fun T nT => ?_⟩⟩
          exact qp .opn ⟨noE, ro', dr', sn, lb⟩ _ _ T (t6.new nT) upd_same
        | some d =>
          obtain ⟨T, x1, x2, rfl, hT, e1, e2⟩ := (show Is F6 v6 (⟨tBack, (d : Int)⟩ : T2 TStr Int) from i6)
          obtain rfl : x1 = .str tBack.x := e1
          obtain rfl : x2 = .int d := e2
          refine ⟨_, rfl, rfl, _, rfl, ifF (by simp) ⟨_, rfl, ?_⟩⟩
          exact qp (.back d) ⟨noE, ro', dr', sn, lb⟩ F6 H6 T t6 hT
      · refine ⟨_, rfl, rfl, _, rfl, ifF (by simp) ⟨_, rfl, rfl, _, rfl, ifF (by simp) ⟨_, rfl, ?_⟩⟩⟩
        exact qs k s ⟨noE, ro', dr', sp⟩ F5 H5 T (t4.trans g5) (ShO_back sh t4)
/-- what is known of a paper by which a machine is sorted -/
structure SGood (M : Mach) (R S : Nat) (p : Pap6) : Prop where
  small : p.small
  e : ∀ n, p = .ends n → Ends M n ∧ n ≤ 200
  ne : (∀ n, p ≠ .ends n) → NoE M 200
  ok : p ≠ .opn → p.ok M R S
theorem Srt.good {M : Mach} {R S : Nat} {p : Pap6} (h : Srt M R S p) : SGood M R S p := by
  cases p with
  | ends n => exact ⟨by show n ≤ 5000; have := h.2; omega, fun m e => by cases e; exact h, fun z => absurd rfl (z n), fun _ => h.1⟩
  | ring f l =>
    obtain ⟨no, fl, l61, sa, _⟩ := h
    exact ⟨⟨by omega, by omega⟩, fun m e => (nomatch e), fun _ => no, fun _ => ⟨fl, sa, no.goes l (by omega)⟩⟩
  | drift f l =>
    obtain ⟨no, _, fl, l61, sa, _⟩ := h
    exact ⟨⟨by omega, by omega⟩, fun m e => (nomatch e), fun _ => no, fun _ => ⟨fl, sa, no.goes l (by omega)⟩⟩
  | back d =>
    obtain ⟨no, _, _, _, lb⟩ := h
    obtain ⟨d1, d8, ok, _⟩ := lb.yes d rfl
    exact ⟨by show d ≤ 5000; omega, fun m e => (nomatch e), fun _ => no, fun _ => ok⟩
  | shut w A B C => exact h.elim
  | opn => exact ⟨trivial, fun m e => (nomatch e), fun _ => h.1, fun z => absurd rfl z⟩
theorem SrtS.good {M : Mach} {R S k : Nat} {s : SS} (hM : MOk M R S) (h : SrtS M S k s) : SGood M R S (.shut k (sortD s.A) (sortD s.B) (sortD s.C)) := by
  obtain ⟨no, _, _, ew, rn, gs, _⟩ := h
  have hw := of_decide_eq_true ew
  rw [Int.toNat_natCast] at hw
  have ok := rn.ok hM (by omega) (start_ok hM)
  have fw := ok.few hM.r4 hM.s4 hw.2.2
  have nA : (sortD s.A).length = s.A.length := (sortD_perm _).length_eq
  have nB : (sortD s.B).length = s.B.length := (sortD_perm _).length_eq
  have nC : (sortD s.C).length = s.C.length := (sortD_perm _).length_eq
  refine ⟨⟨by omega, by omega, by omega, fun x hx => by rw [(ok.a x (mem_sD.mp hx)).len]; omega, fun x hx => by rw [(ok.b x (mem_sD.mp hx)).len]; omega, fun x hx => by rw [(ok.c x (mem_sD.mp hx)).a.len, (ok.c x (mem_sD.mp hx)).d.len]; omega⟩, fun m e => (nomatch e), fun _ => no, fun _ => ?_⟩
  exact shut_ok ew ok rn.start_sub (closed_of gs)
theorem ShAt.pap {F : Hp} {T : Addr} {k : Nat} {s : SS} (h : ShAt F T k s) : Pap6At F T (.shut k (sortD s.A) (sortD s.B) (sortD s.C)) := h
/-! ### max of a tuple of ints -/
section
open PySem.Spec PyProof.Rows
end
/-! ### plain things: numbers, None, texts, lists and tuples of these (a def that calls itself) -/
def At0 (v : V) : Prop := (∃ i, v = .int i) ∨ v = .non ∨ ∃ s, v = .str s
def Pl (F : Hp) : Nat → V → Prop
  | 0, v => At0 v
  | n + 1, v => At0 v ∨ ∃ a xs, v = .ref a ∧ (F a = some (.lst xs) ∨ F a = some (.tup xs)) ∧ ∀ x ∈ xs, Pl F n x
theorem Pl.up {F F' : Hp} (s : Same F F') : ∀ {n : Nat} {v : V}, Pl F n v → Pl F' n v
  | 0, _, h => h
  | n + 1, _, .inl h => .inl h
  | n + 1, _, .inr ⟨a, xs, e, h, k⟩ => .inr ⟨a, xs, e, h.imp (s _ _) (s _ _), fun x m => Pl.up s (k x m)⟩
theorem Pl.at0 {F : Hp} {v : V} (h : At0 v) : ∀ n, Pl F n v
  | 0 => h
  | _ + 1 => .inl h
def sp_plainly (n : Nat) : Sp := fun vs H Q _ => ∃ (F : Hp) (v : V), vs = [v] ∧ Same F H ∧ Pl F n v ∧ ∀ H', Gr mu0 F H F H' → Q (.bl true) H'
theorem okR_plainly (t : Tx K mg) : ∀ n, FnOk P w K mg base CX0 (n + 1) t.a_L_plainly t.fd_L_plainly ["_law_found"] (sp_plainly n) := by
  intro n
  induction n with
  | zero =>
    refine t.F_L_plainly.ok sc_L_plainly (fun vs H Q E h => ?_) (fun cdv A outer s H vs Q E hr h => ?_)
    · obtain ⟨F, v, rfl, _⟩ := h
      rfl
    · obtain ⟨F, v, rfl, sF, hv, q⟩ := h
      refine ⟨_, (pss_cons (ps_if (PW.pt (pw_or (pt_val (pe_callB (id := "isinstance") call_isi (by rfl) t.n_isinstance (by decide +kernel) (pa_cons (pv 0) (pa_cons (pe_bltn (v := .ty "tuple") (by rfl) t.n_tuple (by decide +kernel) rfl) pa_nil)))) (pw_or1 (pt_val (pe_callB (id := "isinstance") call_isi (by rfl) t.n_isinstance (by decide +kernel) (pa_cons (pv 0) (pa_cons (pe_bltn (v := .ty "list") (by rfl) t.n_list (by decide +kernel) rfl) pa_nil))))))) (pss_one ps_never) pss_nil)
      (pss_cons (ps_if (PW.pt (pw_or (pt_cmpR op_isN (pv 0) pe_non (nomark _)) (pw_or1 (pt_val (pe_callB (id := "isinstance") call_isi (by rfl) t.n_isinstance (by decide +kernel) (pa_cons (pv 0) (pa_cons (pe_bltn (v := .ty "str") (by rfl) t.n_str (by decide +kernel) rfl) pa_nil))))))) (pss_one (ps_ret pe_bl)) pss_nil)
      (pss_one (ps_ret (pe_and (pe_callB (id := "isinstance") call_isi (by rfl) t.n_isinstance (by decide +kernel) (pa_cons (pv 0) (pa_cons (pe_bltn (v := .ty "int") (by rfl) t.n_int (by decide +kernel) rfl) pa_nil))) (pe_one (pe_not (pe_callB (id := "isinstance") call_isi (by rfl) t.n_isinstance (by decide +kernel) (pa_cons (pv 0) (pa_cons (pe_bltn (v := .ty "bool") (by rfl) t.n_bool (by decide +kernel) rfl) pa_nil)))))))))), ?_⟩
      have g0 : Gr mu0 F H F H := Gr.refl sF
      rcases hv with ⟨i, rfl⟩ | rfl | ⟨x, rfl⟩
      · refine ⟨_, rfl, _, _, _, _, false, rfl, .ty "tuple", .base (.int _), kit_ty (by decide +kernel), _, rfl, ifF rfl ⟨_, rfl, _, _, _, _, false, rfl, .ty "list", .base (.int _), kit_ty (by decide +kernel), _, rfl, ifF rfl ?_⟩⟩
        refine ⟨_, rfl, rfl, _, rfl, ifF rfl ⟨_, rfl, _, _, _, _, false, rfl, .ty "str", .base (.int _), kit_ty (by decide +kernel), _, rfl, ifF rfl ?_⟩⟩
        exact ⟨_, rfl, _, _, _, _, true, rfl, .ty "int", .base (.int _), kt_int_int, _, rfl, ifT rfl ⟨_, rfl, _, _, _, _, false, rfl, .ty "bool", .base (.int _), kt_int_bool, _, rfl, q _ g0⟩⟩
      · refine ⟨_, rfl, _, _, _, _, false, rfl, .ty "tuple", .base .non, kit_ty (by decide +kernel), _, rfl, ifF rfl ⟨_, rfl, _, _, _, _, false, rfl, .ty "list", .base .non, kit_ty (by decide +kernel), _, rfl, ifF rfl ?_⟩⟩
        exact ⟨_, rfl, rfl, _, rfl, ifT rfl (q _ g0)⟩
      · refine ⟨_, rfl, _, _, _, _, false, rfl, .ty "tuple", .base (.str _), kit_ty (by decide +kernel), _, rfl, ifF rfl ⟨_, rfl, _, _, _, _, false, rfl, .ty "list", .base (.str _), kit_ty (by decide +kernel), _, rfl, ifF rfl ?_⟩⟩
        exact ⟨_, rfl, rfl, _, rfl, ifF rfl ⟨_, rfl, _, _, _, _, true, rfl, .ty "str", .base (.str _), kit_ty (by decide +kernel), _, rfl, ifT rfl (q _ g0)⟩⟩
  | succ n ih =>
    refine t.F_L_plainly.ok sc_L_plainly (fun vs H Q E h => ?_) (fun cdv A outer s H vs Q E hr h => ?_)
    · obtain ⟨F, v, rfl, _⟩ := h
      rfl
    · obtain ⟨F, v, rfl, sF, hv, q⟩ := h
      refine ⟨_, (pss_cons (ps_if (PW.pt (pw_or (pt_val (pe_callB (id := "isinstance") call_isi (by rfl) t.n_isinstance (by decide +kernel) (pa_cons (pv 0) (pa_cons (pe_bltn (v := .ty "tuple") (by rfl) t.n_tuple (by decide +kernel) rfl) pa_nil)))) (pw_or1 (pt_val (pe_callB (id := "isinstance") call_isi (by rfl) t.n_isinstance (by decide +kernel) (pa_cons (pv 0) (pa_cons (pe_bltn (v := .ty "list") (by rfl) t.n_list (by decide +kernel) rfl) pa_nil))))))) (pss_one (ps_ret (pe_cmpR op_eq (pe_callB (id := "len") call_lenQ (by rfl) t.n_len (by decide +kernel) (pa_cons (pe_lc (own := [("_law_part", 1)]) (g := gName 1) rfl sc_L_plainly.nd (pi_or (pi_list (pv 0)) (pi_tup (pv 0))) (blkOk_by (N := N_L_plainly) (sc := defScope s_L_plainly) (by decide +kernel)) (fun _ _ _ _ _ => (pg_name (i := 1) sc_L_plainly.nd rfl (by first | exact Or.inl rfl | exact Or.inr rfl))) (fun _ _ _ _ _ => (pts_one (pt_not (pt_val (pe_call ih (hr.mono (Nat.le_refl _)) (by rfl) t.m_L_plainly t.F_L_plainly.kp t.b_L_plainly .nil pass0 (pa_cons (pv 1) pa_nil)))))) (fun _ _ _ _ _ => (pv 1))) pa_nil)) pe_int (nomark _)))) pss_nil)
      (pss_cons (ps_if (PW.pt (pw_or (pt_cmpR op_isN (pv 0) pe_non (nomark _)) (pw_or1 (pt_val (pe_callB (id := "isinstance") call_isi (by rfl) t.n_isinstance (by decide +kernel) (pa_cons (pv 0) (pa_cons (pe_bltn (v := .ty "str") (by rfl) t.n_str (by decide +kernel) rfl) pa_nil))))))) (pss_one (ps_ret pe_bl)) pss_nil)
      (pss_one (ps_ret (pe_and (pe_callB (id := "isinstance") call_isi (by rfl) t.n_isinstance (by decide +kernel) (pa_cons (pv 0) (pa_cons (pe_bltn (v := .ty "int") (by rfl) t.n_int (by decide +kernel) rfl) pa_nil))) (pe_one (pe_not (pe_callB (id := "isinstance") call_isi (by rfl) t.n_isinstance (by decide +kernel) (pa_cons (pv 0) (pa_cons (pe_bltn (v := .ty "bool") (by rfl) t.n_bool (by decide +kernel) rfl) pa_nil)))))))))), ?_⟩
      have g0 : Gr mu0 F H F H := Gr.refl sF
      rcases hv with (⟨i, rfl⟩ | rfl | ⟨x, rfl⟩) | ⟨a, xs, rfl, ha, hx⟩
      · refine ⟨_, rfl, _, _, _, _, false, rfl, .ty "tuple", .base (.int _), kit_ty (by decide +kernel), _, rfl, ifF rfl ⟨_, rfl, _, _, _, _, false, rfl, .ty "list", .base (.int _), kit_ty (by decide +kernel), _, rfl, ifF rfl ?_⟩⟩
        refine ⟨_, rfl, rfl, _, rfl, ifF rfl ⟨_, rfl, _, _, _, _, false, rfl, .ty "str", .base (.int _), kit_ty (by decide +kernel), _, rfl, ifF rfl ?_⟩⟩
        exact ⟨_, rfl, _, _, _, _, true, rfl, .ty "int", .base (.int _), kt_int_int, _, rfl, ifT rfl ⟨_, rfl, _, _, _, _, false, rfl, .ty "bool", .base (.int _), kt_int_bool, _, rfl, q _ g0⟩⟩
      · refine ⟨_, rfl, _, _, _, _, false, rfl, .ty "tuple", .base .non, kit_ty (by decide +kernel), _, rfl, ifF rfl ⟨_, rfl, _, _, _, _, false, rfl, .ty "list", .base .non, kit_ty (by decide +kernel), _, rfl, ifF rfl ?_⟩⟩
        exact ⟨_, rfl, rfl, _, rfl, ifT rfl (q _ g0)⟩
      · refine ⟨_, rfl, _, _, _, _, false, rfl, .ty "tuple", .base (.str _), kit_ty (by decide +kernel), _, rfl, ifF rfl ⟨_, rfl, _, _, _, _, false, rfl, .ty "list", .base (.str _), kit_ty (by decide +kernel), _, rfl, ifF rfl ?_⟩⟩
        exact ⟨_, rfl, rfl, _, rfl, ifF rfl ⟨_, rfl, _, _, _, _, true, rfl, .ty "str", .base (.str _), kit_ty (by decide +kernel), _, rfl, ifT rfl (q _ g0)⟩⟩
      · rcases ha with ha | ha
        · refine ⟨_, rfl, _, _, _, _, false, rfl, .ty "tuple", .base (.lst (sF _ _ ha)), kit_ty (by decide +kernel), _, rfl, ifF rfl ⟨_, rfl, _, _, _, _, true, rfl, .ty "list", .base (.lst (sF _ _ ha)), kt_list, _, rfl, ifT rfl ?_⟩⟩
          refine .inl ⟨_, rfl, a, rfl, ⟨_, SqL.of (sF _ _ ha)⟩, fun D nD => lc_list (K := K) (a := a) (xs := xs) (fun i G => Gr mu0 F H F G ∧ G D = some (.lst [])) ⟨g0.own nD, upd_same⟩ (fun i G _ p => SqL.of (p.1.fh _ _ ha)) ?_ ?_⟩
          · rintro i x G hi ⟨g, hD⟩
            exact ⟨rfl, _, rfl, F, x, rfl, g.fh, hx x (List.mem_of_getElem? hi), fun G' g' => ⟨_, rfl, ifF rfl ⟨g.trans g', g'.fr _ _ hD (fun z => z)⟩⟩⟩
          · rintro G ⟨g, hD⟩
            exact ⟨D, _, rfl, .inl (SqL.of hD), rfl, q _ g⟩
        · refine ⟨_, rfl, _, _, _, _, true, rfl, .ty "tuple", .base (.tup (sF _ _ ha)), kt_tup, _, rfl, ifT rfl ?_⟩
          refine .inr ⟨_, rfl, a, rfl, ⟨_, SqT.of (sF _ _ ha)⟩, fun D nD => lc_tup (K := K) (a := a) (xs := xs) (fun i G => Gr mu0 F H F G ∧ G D = some (.lst [])) ⟨g0.own nD, upd_same⟩ (fun i G _ p => SqT.of (p.1.fh _ _ ha)) ?_ ?_⟩
          · rintro i x G hi ⟨g, hD⟩
            exact ⟨rfl, _, rfl, F, x, rfl, g.fh, hx x (List.mem_of_getElem? hi), fun G' g' => ⟨_, rfl, ifF rfl ⟨g.trans g', g'.fr _ _ hD (fun z => z)⟩⟩⟩
          · rintro G ⟨g, hD⟩
            exact ⟨D, _, rfl, .inl (SqL.of hD), rfl, q _ g⟩
def sp_L_plainly : Sp := sp_plainly 6
theorem ok_L_plainly (t : Tx K mg) : FnOk P w K mg base CX0 7 t.a_L_plainly t.fd_L_plainly ["_law_found"] sp_L_plainly := okR_plainly t 6
/-! ### lists of lists of data that may be changed yet -/
section
variable {α : Type} [Dat α]
structure MaG (H F1 H1 : Hp) (m : Addr) (rs : List Addr) (ess : List (List V)) (M : List (List α)) : Prop where
  ow : Ow H F1 H1 m (.lst (rs.map V.ref))
  nd : rs.Nodup
  ne : m ∉ rs
  len : rs.length = ess.length
  rows : ∀ (i : Nat) r es, rs[i]? = some r → ess[i]? = some es → Ow H F1 H1 r (.lst es)
  dat : All2 (fun es row => IsAll F1 es row) ess M
section
variable {mu mu' : Addr → Prop} {H F F1 H1 F2 H2 : Hp} {m : Addr} {rs : List Addr} {ess : List (List V)} {M : List (List α)}
theorem MaG.row (x : MaG H F1 H1 m rs ess M) {r : Addr} (h : r ∈ rs) : ∃ es, Ow H F1 H1 r (.lst es) := by
  obtain ⟨i, hi⟩ := List.getElem?_of_mem h
  have l := (List.getElem?_eq_some_iff.mp hi).1
  exact ⟨ess[i]'(by rw [← x.len]; exact l), x.rows i r _ hi (List.getElem?_eq_getElem _)⟩
theorem MaG.gr (x : MaG H F1 H1 m rs ess M) (g : Gr mu F1 H1 F2 H2) (k : ∀ c, mu c → c ≠ m ∧ c ∉ rs) : MaG H F2 H2 m rs ess M where
  ow := x.ow.call g fun z => (k m z).1 rfl
  nd := x.nd
  ne := x.ne
  len := x.len
  rows := fun i r es h1 h2 => (x.rows i r es h1 h2).call g fun z => (k r z).2 (List.mem_of_getElem? h1)
  dat := x.dat.imp fun es row z => z.up g.ff
theorem MaG.off (x : MaG H F1 H1 m rs ess M) {p : Addr} {o : HO} (h : H p = some o) : ∀ c, muP p c → c ≠ m ∧ c ∉ rs := fun c e => by
  rw [show c = p from e]
  refine ⟨fun z => ?_, fun z => ?_⟩
  · rw [z, x.ow.n] at h; cases h
  · obtain ⟨es, w⟩ := x.row z
    rw [w.n] at h; cases h
theorem MaG.offn (x : MaG H F1 H1 m rs ess M) {p : Addr} (h : H1 p = none) : p ≠ m ∧ p ∉ rs := by
  refine ⟨fun z => ?_, fun z => ?_⟩
  · rw [z, x.ow.h] at h; cases h
  · obtain ⟨es, w⟩ := x.row z
    rw [w.h] at h; cases h
/-- a row that is done comes in -/
theorem MaG.add (x : MaG H F1 H1 m rs ess M) {r : Addr} {es : List V} {row : List α} (w : Ow H F1 H1 r (.lst es)) (k : r ≠ m ∧ r ∉ rs) (d : IsAll F1 es row) : MaG H F1 (upd H1 m (.lst ((rs ++ [r]).map V.ref))) m (rs ++ [r]) (ess ++ [es]) (M ++ [row]) where
  ow := x.ow.set
  nd := nd_snoc x.nd k.2
  ne := fun z => by
    rcases List.mem_append.mp z with z | z
    · exact x.ne z
    · exact k.1 (List.mem_singleton.mp z).symm
  len := by rw [List.length_append, List.length_append, x.len]; rfl
  rows := fun i r' es' h1 h2 => by
    by_cases l : i < rs.length
    · rw [List.getElem?_append_left l] at h1
      rw [List.getElem?_append_left (by rw [← x.len]; exact l)] at h2
      exact (x.rows i r' es' h1 h2).other fun z => x.ne (by rw [← z]; exact List.mem_of_getElem? h1)
    · rw [List.getElem?_append_right (by omega)] at h1
      rw [List.getElem?_append_right (by rw [← x.len]; omega), ← x.len] at h2
      cases e : i - rs.length with
      | zero =>
        rw [e] at h1 h2
        cases h1; cases h2
        exact w.other k.1
      | succ n => rw [e] at h1; cases h1
  dat := x.dat.app (All2.one d)
/-- an entry of it is changed -/
theorem MaG.put (x : MaG H F1 H1 m rs ess M) {i j : Nat} {r : Addr} {es : List V} {row : List α} {v : V} {e : α} (hr : rs[i]? = some r) (hes : ess[i]? = some es) (hrow : M[i]? = some row) (hv : Is F1 v e) :
    MaG H F1 (upd H1 r (.lst (es.set j v))) m rs (ess.set i (es.set j v)) (M.set i (row.set j e)) where
  ow := x.ow.other fun z => x.ne (by rw [z]; exact List.mem_of_getElem? hr)
  nd := x.nd
  ne := x.ne
  len := by rw [List.length_set]; exact x.len
  rows := fun i' r' es' h1 h2 => by
    by_cases e : i = i'
    · subst e
      rw [hr] at h1
      cases h1
      rw [List.getElem?_set_self (List.getElem?_eq_some_iff.mp hes).1] at h2
      cases h2
      exact (x.rows i r es hr hes).set
    · rw [List.getElem?_set_ne e] at h2
      exact (x.rows i' r' es' h1 h2).other fun z => e (nd_ix x.nd hr (by rw [← z]; exact h1))
  dat := x.dat.set ((x.dat.2 i es row hes hrow).set hv j) i
/-- it is changed no more -/
theorem MaG.frz (x : MaG H F1 H1 m rs ess M) (g : Gr mu F H F1 H1) : ∃ F2, Gr mu F H F2 H1 ∧ Same F1 F2 ∧ Is F2 (.ref m) M ∧ (∀ c, c ≠ m → c ∉ rs → F2 c = F1 c) ∧ ∀ c, c = m ∨ c ∈ rs → F2 c = H1 c := by
  have own : ∀ c, (c = m ∨ c ∈ rs) → H c = none ∧ F1 c = none ∧ ∃ o, H1 c = some o := fun c h => by
    rcases h with rfl | h
    · exact ⟨x.ow.n, x.ow.f, _, x.ow.h⟩
    · obtain ⟨es, w⟩ := x.row h
      exact ⟨w.n, w.f, _, w.h⟩
  have s : Same F1 (fun c => if c = m ∨ c ∈ rs then H1 c else F1 c) := fun c o h => by
    by_cases e : c = m ∨ c ∈ rs
    · rw [(own c e).2.1] at h; cases h
    · simp only [e, if_false]; exact h
  refine ⟨fun c => if c = m ∨ c ∈ rs then H1 c else F1 c, ⟨fun c o h => s c o (g.ff c o h), fun c o h => ?_, fun c o h => ?_, g.fr, g.th⟩, s, ⟨m, rs.map V.ref, rfl, ?_, by rw [List.length_map, x.len]; exact x.dat.1, fun i v row h1 h2 => ?_⟩, fun c h1 h2 => if_neg fun z => z.elim h1 h2, fun c h => if_pos h⟩
  · by_cases e : c = m ∨ c ∈ rs
    · simp only [e, if_true] at h; exact h
    · simp only [e, if_false] at h; exact g.fh c o h
  · by_cases e : c = m ∨ c ∈ rs
    · exact .inr (own c e).1
    · simp only [e, if_false] at h; exact g.nw c o h
  · show (if m = m ∨ m ∈ rs then H1 m else F1 m) = _
    rw [if_pos (.inl rfl)]; exact x.ow.h
  · rw [List.getElem?_map] at h1
    cases hr : rs[i]? with
    | none => rw [hr] at h1; cases h1
    | some r =>
      rw [hr] at h1
      cases h1
      obtain ⟨es, hes, hd⟩ := x.dat.get h2
      refine ⟨r, es, rfl, ?_, hd.up s⟩
      show (if r = m ∨ r ∈ rs then H1 r else F1 r) = _
      rw [if_pos (.inr (List.mem_of_getElem? hr))]
      exact (x.rows i r es hr hes).h
/-- it may be changed again -/
theorem MaG.thaw {F0 F3 G : Hp} (s0 : Same F0 H) (x : MaG H F1 H1 m rs ess M) (s : Same F1 F2) (on : ∀ c, c = m ∨ c ∈ rs → F2 c = H1 c) (s' : Same F2 F3) (g : Gr mu F0 H F3 G) : ∃ F', Gr mu F0 H F' G ∧ Same F1 F' ∧ MaG H F' G m rs ess M := by
  have own : ∀ c, (c = m ∨ c ∈ rs) → H c = none ∧ F1 c = none ∧ ∀ o, H1 c = some o → G c = some o := fun c h => by
    have k : ∀ o, H1 c = some o → G c = some o := fun o e => g.fh _ _ (s' _ _ ((on c h).trans e))
    rcases id h with rfl | h
    · exact ⟨x.ow.n, x.ow.f, k⟩
    · obtain ⟨es, w⟩ := x.row h
      exact ⟨w.n, w.f, k⟩
  have sa : Same F1 (fun c => if c = m ∨ c ∈ rs then none else F3 c) := fun c o h => by
    by_cases e : c = m ∨ c ∈ rs
    · rw [(own c e).2.1] at h; cases h
    · simp only [e, if_false]; exact s' _ _ (s _ _ h)
  have sb : Same (fun c => if c = m ∨ c ∈ rs then none else F3 c) F3 := fun c o h => by
    by_cases e : c = m ∨ c ∈ rs
    · simp only [e, if_true] at h; cases h
    · simp only [e, if_false] at h; exact h
  have no : ∀ c, (c = m ∨ c ∈ rs) → (fun c => if c = m ∨ c ∈ rs then none else F3 c) c = none := fun c e => if_pos e
  refine ⟨fun c => if c = m ∨ c ∈ rs then none else F3 c, ⟨fun c o h => ?_, fun c o h => g.fh _ _ (sb _ _ h), fun c o h => g.nw _ _ (sb _ _ h), g.fr, g.th⟩, sa, ⟨⟨x.ow.n, no _ (.inl rfl), (own _ (.inl rfl)).2.2 _ x.ow.h⟩, x.nd, x.ne, x.len, fun i r es h1 h2 => ?_, x.dat.imp fun es row z => z.up sa⟩⟩
  · by_cases e : c = m ∨ c ∈ rs
    · have z := s0 c o h
      rw [(own c e).1] at z; cases z
    · simp only [e, if_false]; exact g.ff c o h
  · have w := x.rows i r es h1 h2
    have m' : r = m ∨ r ∈ rs := .inr (List.mem_of_getElem? h1)
    exact ⟨w.n, no _ m', (own _ m').2.2 _ w.h⟩
theorem MaG.at (x : MaG H F1 H1 m rs ess M) {i : Nat} {row : List α} (h : M[i]? = some row) : ∃ r es, rs[i]? = some r ∧ ess[i]? = some es ∧ Ow H F1 H1 r (.lst es) ∧ IsAll F1 es row := by
  obtain ⟨es, hes, al⟩ := x.dat.get h
  have l : i < rs.length := by rw [x.len]; exact (List.getElem?_eq_some_iff.mp hes).1
  exact ⟨_, es, List.getElem?_eq_getElem l, hes, x.rows i _ es (List.getElem?_eq_getElem l) hes, al⟩
end
end
/-! ### what a machine is sorted as is one thing alone -/
theorem ShutP.no {M : Mach} {S k : Nat} {s : SS} (a : ShutP M S none) (b : ShutP M S (some (k, s))) : False := by
  obtain ⟨ew, rn, gs, _⟩ := b
  obtain ⟨u, ru, eu⟩ := a k ew
  exact ru.some (closed_of gs) rn.start_sub eu
theorem ShutP.le {M : Mach} {S k k' : Nat} {s s' : SS} (a : ShutP M S (some (k, s))) (b : ShutP M S (some (k', s'))) : ¬ k < k' := fun l => by
  obtain ⟨ew, rn, gs, _⟩ := a
  obtain ⟨_, _, _, no⟩ := b
  have := of_decide_eq_true ew
  obtain ⟨u, ru, eu⟩ := no k (by omega) l
  exact ru.some (closed_of gs) rn.start_sub eu
theorem ShutP.uniq {M : Mach} {R S k k' : Nat} {s s' : SS} (hM : MOk M R S) (a : ShutP M S (some (k, s))) (b : ShutP M S (some (k', s'))) : k = k' ∧ papOf k s = papOf k' s' := by
  have e : k = k' := by have := a.le b; have := b.le a; omega
  subst e
  obtain ⟨ew, rn, gs, _⟩ := a
  obtain ⟨_, rn', gs', _⟩ := b
  have := of_decide_eq_true ew
  have ok := rn.ok hM (by omega) (start_ok hM)
  have ok' := rn'.ok hM (by omega) (start_ok hM)
  obtain ⟨e1, e2, e3⟩ := sets_eq ok ok' (rn.sub (closed_of gs') rn'.start_sub) (rn'.sub (closed_of gs) rn.start_sub)
  exact ⟨rfl, by unfold papOf; rw [e1, e2, e3]⟩
/-- what sorted_as tells, all of it -/
def SrtA (M : Mach) (R S : Nat) (p : Pap6) : Prop := Srt M R S p ∨ ∃ k s, SrtS M S k s ∧ p = .shut k (sortD s.A) (sortD s.B) (sortD s.C)
theorem SrtA.good {M : Mach} {R S : Nat} {p : Pap6} (hM : MOk M R S) (h : SrtA M R S p) : SGood M R S p := by
  rcases h with h | ⟨k, s, h, rfl⟩
  · exact h.good
  · exact h.good hM
/-! ### the tree of all machines of a size (plain) -/
def fullE (M : Mach) : List Ent := M.flatten.filter fun e => decide (e ≠ .emp)
def ePut : Ent → Int
  | .emp => 0
  | .go p _ _ => p
def eGo : Ent → Int
  | .emp => 0
  | .go _ _ r => r
def nmd (f : Ent → Int) (M : Mach) : Int := ((fullE M).map f).foldl max 0 + 1
def setE (M : Mach) (r s : Nat) (e : Ent) : Mach := M.set r ((M[r]?.getD []).set s e)
def waysE (M : Mach) : List Int := if fullE M = [] then [1] else [-1, 1]
def kids (M : Mach) (R S r s : Nat) : List Mach :=
  (List.range (min (S : Int) (nmd ePut M + 1)).toNat).flatMap fun (p : Nat) => (waysE M).flatMap fun w => (List.range (min (R : Int) (nmd eGo M + 1)).toNat).map fun (g : Nat) => setE M r s (.go p w g)
def goN (M : Mach) : Nat → Nat → Cfg → Nat × Cfg
  | 0, k, c => (k, c)
  | n + 1, k, c => match stepC M c with
    | none => (k, c)
    | some c' => goN M n (k + 1) c'
theorem goN_gone {M : Mach} {m : Nat} : ∀ (n k : Nat) (c : Cfg), stepsC M k = some c → k + n = m → Gone M m (goN M n k c).1 (goN M n k c).2
  | 0, k, c, h, e => ⟨by show k ≤ m; omega, h, .inr (by show k = m; omega)⟩
  | n + 1, k, c, h, e => by
    unfold goN
    cases hc : stepC M c with
    | none => exact ⟨by show k ≤ m; omega, h, .inl hc⟩
    | some c' => exact goN_gone n (k + 1) c' ((stepsC_next h).trans hc) (by omega)
theorem goN_200 {M : Mach} {k : Nat} {c : Cfg} (go : Gone M 200 k c) : goN M 200 0 c0 = (k, c) := by
  obtain ⟨e1, e2⟩ := (goN_gone (M := M) (m := 200) 200 0 c0 rfl rfl).uniq go
  exact Prod.ext e1 e2
def metM (M : Mach) : Option (Nat × Nat) := if entOf M (goN M 200 0 c0).2 = .emp then some ((goN M 200 0 c0).2.r.toNat, (gz (goN M 200 0 c0).2.l (goN M 200 0 c0).2.s).toNat) else none
theorem metM_of {M : Mach} {k : Nat} {c : Cfg} (go : Gone M 200 k c) : metM M = if entOf M c = .emp then some (c.r.toNat, (gz c.l c.s).toNat) else none := by
  unfold metM
  rw [goN_200 go]
def empM (R S : Nat) : Mach := List.replicate R (List.replicate S .emp)
def grow (R S : Nat) (ws : List Mach) (M : Mach) : List Mach := ws.dropLast ++ match metM M with
  | some (r, s) => (kids M R S r s).reverse
  | none => []
def tits (R S : Nat) : Nat → List Mach × List Mach
  | 0 => ([empM R S], [])
  | n + 1 => match (tits R S n).1.getLast? with
    | none => tits R S n
    | some M => (grow R S (tits R S n).1 M, (tits R S n).2 ++ [M])
/-! looked at, one by one -/
def mokB (M : Mach) (R S : Nat) : Bool := decide (1 ≤ R) && decide (R ≤ 4) && decide (2 ≤ S) && decide (S ≤ 4) && decide (M.length = R) && M.all fun r => decide (r.length = S) && r.all fun e => match e with
  | .emp => true
  | .go p w r => decide (0 ≤ p) && decide (p < S) && (decide (w = -1) || decide (w = 1)) && decide (0 ≤ r) && decide (r < R)
theorem mokB_ok {M : Mach} {R S : Nat} (h : mokB M R S = true) : MOk M R S := by
  unfold mokB at h
  simp only [Bool.and_eq_true, decide_eq_true_eq, List.all_eq_true] at h
  obtain ⟨⟨⟨⟨⟨h1, h2⟩, h3⟩, h4⟩, h5⟩, h6⟩ := h
  refine ⟨h1, h2, h3, h4, h5, fun r m => (h6 r m).1, fun r m e k => ⟨fun p w g z => ?_⟩⟩
  have := (h6 r m).2 e k
  rw [z] at this
  simp only [Bool.and_eq_true, Bool.or_eq_true, decide_eq_true_eq] at this
  exact ⟨⟨this.1.1.1.1, this.1.1.1.2⟩, this.1.1.2, this.1.2, this.2⟩
def ringB (M : Mach) (f l : Nat) : Bool := decide (f < l) && decide (l < 61) && match stepsC M f, stepsC M l with
  | some a, some b => sameC a b
  | _, _ => false
theorem ringB_ok {M : Mach} {f l : Nat} (h : ringB M f l = true) : f < l ∧ l < 61 ∧ SameAt M f l := by
  unfold ringB at h
  rw [Bool.and_eq_true, Bool.and_eq_true] at h
  refine ⟨of_decide_eq_true h.1.1, of_decide_eq_true h.1.2, ?_⟩
  cases ha : stepsC M f with
  | none => rw [ha] at h; cases h.2
  | some a =>
    cases hb : stepsC M l with
    | none => rw [ha, hb] at h; cases h.2
    | some b => rw [ha, hb] at h; exact ⟨a, b, ha, hb, h.2⟩
def placesN (M : Mach) : Nat → Cfg → List Int
  | 0, _ => []
  | n + 1, c => c.s :: match stepC M c with
    | none => []
    | some c' => placesN M n c'
theorem placesN_of {M : Mach} {p : Int → Bool} : ∀ (n f i : Nat) (a c : Cfg), stepsC M f = some a → f ≤ i → i < f + n → stepsC M i = some c → p c.s = true → (placesN M n a).any p = true
  | 0, f, i, a, c, _, h1, h2, _, _ => absurd h2 (by omega)
  | n + 1, f, i, a, c, ha, h1, h2, hc, hp => by
    unfold placesN
    rw [List.any_cons, Bool.or_eq_true]
    by_cases e : i = f
    · rw [e, ha] at hc
      cases hc
      exact .inl hp
    · obtain ⟨b, hb⟩ := stepsC_le hc (show f + 1 ≤ i by omega)
      have sb : stepC M a = some b := (stepsC_next ha).symm.trans hb
      rw [sb]
      exact .inr (placesN_of n (f + 1) i b c hb (by omega) (by omega) hc hp)
def driftB (M : Mach) (f l : Nat) : Bool := decide (f < l) && decide (l < 61) && match stepsC M f, stepsC M l with
  | some a, some b => decide (a.r = b.r) && decide (a.s ≠ b.s) && (dk a.l ++ (dk b.l).map (fun z => z - (b.s - a.s))).all fun y =>
      !((decide (a.s < b.s) && (placesN M (l - f) a).any fun s => decide (s ≤ y)) || (decide (b.s < a.s) && (placesN M (l - f) a).any fun s => decide (y ≤ s))) || decide (gz a.l y = gz b.l (y + (b.s - a.s)))
  | _, _ => false
theorem driftB_ok {M : Mach} {f l : Nat} (h : driftB M f l = true) : f < l ∧ l < 61 ∧ DriftAt M f l := by
  unfold driftB at h
  rw [Bool.and_eq_true, Bool.and_eq_true] at h
  have hfl := h.1.1
  refine ⟨of_decide_eq_true h.1.1, of_decide_eq_true h.1.2, ?_⟩
  cases ha : stepsC M f with
  | none => rw [ha] at h; cases h.2
  | some a =>
    cases hb : stepsC M l with
    | none => rw [ha, hb] at h; cases h.2
    | some b =>
      rw [ha, hb] at h
      have h := h.2
      dsimp only at h
      rw [Bool.and_eq_true, Bool.and_eq_true, List.all_eq_true] at h
      refine ⟨a, b, ha, hb, of_decide_eq_true h.1.1, of_decide_eq_true h.1.2, drift_all fun y my py => ?_⟩
      have fl := of_decide_eq_true hfl
      have hy := h.2 y my
      have z : ((decide (a.s < b.s) && (placesN M (l - f) a).any fun s => decide (s ≤ y)) || (decide (b.s < a.s) && (placesN M (l - f) a).any fun s => decide (y ≤ s))) = true := by
        rw [Bool.or_eq_true, Bool.and_eq_true, Bool.and_eq_true]
        rcases py with ⟨p1, i, c, q1, q2, q3, q4⟩ | ⟨p1, i, c, q1, q2, q3, q4⟩
        · exact .inl ⟨decide_eq_true p1, placesN_of (l - f) f i a c ha q1 (by omega) q3 (decide_eq_true q4)⟩
        · exact .inr ⟨decide_eq_true p1, placesN_of (l - f) f i a c ha q1 (by omega) q3 (decide_eq_true q4)⟩
      rw [z] at hy
      exact of_decide_eq_true hy
def shutN (M : Mach) : Nat → SS → Option SS
  | 0, s => some s
  | n + 1, s => (gall M s s.C).bind (shutN M n)
theorem shutN_rn {M : Mach} {s0 : SS} : ∀ (n : Nat) (s u : SS), Rn M s0 s → shutN M n s = some u → Rn M s0 u
  | 0, s, u, h, e => by cases e; exact h
  | n + 1, s, u, h, e => by
    obtain ⟨v, hv, e⟩ := Option.bind_eq_some_iff.mp e
    exact shutN_rn n v u (h.step hv) e
def sameSS (s u : SS) : Bool := decide (s.A = u.A) && decide (s.B = u.B) && decide (s.C = u.C)
def shutB (M : Mach) (S : Nat) : Bool := isW S ((1 : Nat) : Int) && match shutN M 12 (start 1) with
  | some u => match gall M u u.C with
    | some v => sameSS u v
    | none => false
  | none => false
theorem shutB_cl {M : Mach} {S : Nat} (h : shutB M S = true) : isW S ((1 : Nat) : Int) = true ∧ ∃ u, Rn M (start 1) u ∧ gall M u u.C = some u := by
  unfold shutB at h
  rw [Bool.and_eq_true] at h
  refine ⟨h.1, ?_⟩
  cases hu : shutN M 12 (start 1) with
  | none => rw [hu] at h; cases h.2
  | some u =>
    rw [hu] at h
    have h := h.2
    dsimp only at h
    cases hv : gall M u u.C with
    | none => rw [hv] at h; cases h
    | some v =>
      rw [hv] at h
      have h : sameSS u v = true := h
      unfold sameSS at h
      rw [Bool.and_eq_true, Bool.and_eq_true, decide_eq_true_iff, decide_eq_true_iff, decide_eq_true_iff] at h
      have e : v = u := by
        obtain ⟨⟨h1, h2⟩, h3⟩ := h
        cases u; cases v
        dsimp only at h1 h2 h3
        rw [h1, h2, h3]
      rw [e] at hv
      exact ⟨u, shutN_rn 12 _ u .refl hu, hv⟩
theorem shutB_ok {M : Mach} {S : Nat} (h : shutB M S = true) : ¬ ShutP M S none := fun sp => by
  obtain ⟨w, u, ru, gu⟩ := shutB_cl h
  obtain ⟨s, rn, gn⟩ := sp 1 w
  exact rn.some (closed_of gu) ru.start_sub gn
theorem shutB_never {M : Mach} {R S : Nat} (hM : MOk M R S) (h : shutB M S = true) : Never M := by
  obtain ⟨w, u, ru, gu⟩ := shutB_cl h
  exact never_stands hM (Nat.le_refl 1) (ru.ok hM (Nat.le_refl 1) (start_ok hM)) (closed_of gu) (Stands.start ru)
def endB (M : Mach) (k : Nat) : Bool := decide (k ≤ 200) && match stepsC M k with
  | some c => decide (entOf M c = .emp)
  | none => false
theorem endB_ok {M : Mach} {k : Nat} (h : endB M k = true) : ∃ c, stepsC M k = some c ∧ entOf M c = .emp ∧ metM M = some (c.r.toNat, (gz c.l c.s).toNat) := by
  unfold endB at h
  rw [Bool.and_eq_true] at h
  have hk := of_decide_eq_true h.1
  cases hc : stepsC M k with
  | none => rw [hc] at h; cases h.2
  | some c =>
    rw [hc] at h
    have e := of_decide_eq_true h.2
    have go : Gone M 200 k c := ⟨hk, hc, .inl (stepC_none.mpr e)⟩
    exact ⟨c, rfl, e, by rw [metM_of go, if_pos e]⟩
theorem Never.met {M : Mach} (h : Never M) : metM M = none := by
  have go := goN_gone (M := M) (m := 200) 200 0 c0 rfl rfl
  rw [metM_of go, if_neg (h.gone go)]
def crtB (M : Mach) (S : Nat) : Nat × Nat × Nat → Bool
  | (0, k, _) => endB M k
  | (1, f, l) => ringB M f l
  | (2, f, l) => driftB M f l
  | _ => shutB M S
/-- no machine that is met nowhere is open -/
theorem crtB_ok {M : Mach} {R S : Nat} {c : Nat × Nat × Nat} (h : crtB M S c = true) (e : metM M = none) (hp : SrtA M R S .opn) : False := by
  have hp : Srt M R S .opn := by
    rcases hp with hp | ⟨_, _, _, z⟩
    · exact hp
    · cases z
  obtain ⟨h1, h2, h3, h4, h5⟩ := hp
  obtain ⟨k, f, l⟩ := c
  match k, h with
  | 0, h =>
    obtain ⟨_, _, _, z⟩ := endB_ok (show endB M f = true from h)
    rw [e] at z; cases z
  | 1, h =>
    obtain ⟨a, b, c⟩ := ringB_ok h
    exact h2 f l a b c
  | 2, h =>
    obtain ⟨a, b, c⟩ := driftB_ok h
    exact h3 f l a b c
  | _ + 3, h => exact shutB_ok h h4
/-- what comes onto the list behind a machine that is looked at -/
def kidsB (M : Mach) (R S : Nat) : Nat × Nat × Nat → List Mach
  | (0, k, _) => match stepsC M k with
    | some c => (kids M R S c.r.toNat (gz c.l c.s).toNat).reverse
    | none => []
  | _ => []
theorem kidsB_ok {M : Mach} {R S : Nat} {c : Nat × Nat × Nat} (hM : MOk M R S) (h : crtB M S c = true) (ws : List Mach) : grow R S ws M = ws.dropLast ++ kidsB M R S c := by
  obtain ⟨k, f, l⟩ := c
  unfold grow
  match k, h with
  | 0, h =>
    obtain ⟨c, h1, _, h3⟩ := endB_ok (show endB M f = true from h)
    rw [h3]
    show _ = _ ++ (match stepsC M f with | some c => (kids M R S c.r.toNat (gz c.l c.s).toNat).reverse | none => [])
    rw [h1]
  | 1, h =>
    obtain ⟨a, _, c⟩ := ringB_ok h
    rw [(never_ring hM a c).met]; rfl
  | 2, h =>
    obtain ⟨a, _, c⟩ := driftB_ok h
    rw [(never_drift a c).met]; rfl
  | _ + 3, h => rw [(shutB_never hM h).met]; rfl
def tchk (R S : Nat) : List (Nat × Nat × Nat) → List Mach → Bool
  | [], ws => ws.isEmpty
  | c :: cs, ws => match ws.getLast? with
    | none => false
    | some M => mokB M R S && decide (ws.length ≤ 1000) && crtB M S c && tchk R S cs (ws.dropLast ++ kidsB M R S c)
structure NodeOk (R S : Nat) (ws : List Mach) (M : Mach) : Prop where
  last : ws.getLast? = some M
  ok : MOk M R S
  few : ws.length ≤ 1000
  srt : metM M = none → ¬ SrtA M R S .opn
theorem tchk_ok {R S : Nat} : ∀ (cs : List (Nat × Nat × Nat)) (i : Nat), tchk R S cs (tits R S i).1 = true → (tits R S (i + cs.length)).1 = [] ∧ ∀ j, j < cs.length → ∃ M, NodeOk R S (tits R S (i + j)).1 M
  | [], i, h => ⟨List.isEmpty_iff.mp h, fun j hj => absurd hj (Nat.not_lt_zero j)⟩
  | c :: cs, i, h => by
    unfold tchk at h
    cases hl : (tits R S i).1.getLast? with
    | none => rw [hl] at h; cases h
    | some M =>
      rw [hl] at h
      dsimp only at h
      rw [Bool.and_eq_true, Bool.and_eq_true, Bool.and_eq_true] at h
      obtain ⟨⟨⟨h1, h2⟩, h3⟩, h4⟩ := h
      have e : (tits R S (i + 1)).1 = grow R S (tits R S i).1 M := by
        show (match (tits R S i).1.getLast? with | none => tits R S i | some M => (grow R S (tits R S i).1 M, (tits R S i).2 ++ [M])).1 = _
        rw [hl]
      rw [← kidsB_ok (mokB_ok h1) h3, ← e] at h4
      obtain ⟨k1, k2⟩ := tchk_ok cs (i + 1) h4
      refine ⟨by rw [List.length_cons, show i + (cs.length + 1) = i + 1 + cs.length by omega]; exact k1, fun j hj => ?_⟩
      cases j with
      | zero => exact ⟨M, hl, mokB_ok h1, of_decide_eq_true h2, fun z y => crtB_ok h3 z y⟩
      | succ j =>
        rw [show i + (j + 1) = i + 1 + j by omega]
        exact k2 j (by rw [List.length_cons] at hj; omega)
structure TreeOk (R S N : Nat) : Prop where
  fin : (tits R S N).1 = []
  node : ∀ j, j < N → ∃ M, NodeOk R S (tits R S j).1 M
theorem TreeOk.of {R S : Nat} (cs : List (Nat × Nat × Nat)) (h : tchk R S cs [empM R S] = true) : TreeOk R S cs.length := by
  obtain ⟨h1, h2⟩ := tchk_ok cs 0 h
  rw [Nat.zero_add] at h1
  exact ⟨h1, fun j hj => by have := h2 j hj; rwa [Nat.zero_add] at this⟩
theorem tree_12 : TreeOk 1 2 3 := .of [(0, 0, 0), (2, 0, 1), (2, 0, 1)] (by decide +kernel)
theorem tree_13 : TreeOk 1 3 3 := .of [(0, 0, 0), (2, 0, 1), (2, 0, 1)] (by decide +kernel)
theorem tree_14 : TreeOk 1 4 3 := .of [(0, 0, 0), (2, 0, 1), (2, 0, 1)] (by decide +kernel)
-- tree_22
theorem tree_22 : TreeOk 2 2 149 := .of [(0, 0, 0), (2, 0, 1), (0, 1, 0), (1, 0, 2), (2, 1, 2), (2, 0, 2), (2, 1, 2), (0, 3, 0), (1, 0, 4), (2, 1, 4), (2, 0, 4), (2, 1, 4), (1, 2, 4), (2, 1, 4), (2, 0, 4), (0, 5, 0), (3, 1, 0), (2, 1, 6), (2, 0, 7), (2, 3, 6), (3, 1, 0), (2, 8, 13), (2, 0, 7), (2, 3, 6), (2, 1, 2), (2, 0, 2), (2, 1, 2), (2, 0, 1), (0, 1, 0), (0, 2, 0), (2, 0, 3), (2, 0, 4), (2, 0, 3), (1, 0, 4), (0, 4, 0), (2, 2, 5), (2, 0, 7), (2, 0, 5), (3, 1, 0), (2, 2, 5), (2, 0, 7), (2, 7, 12), (3, 1, 0), (2, 0, 4), (2, 0, 3), (1, 1, 3), (0, 2, 0), (2, 0, 3), (2, 3, 4), (2, 0, 3), (2, 3, 4), (0, 5, 0), (2, 0, 6), (2, 6, 7), (2, 0, 7), (1, 2, 6), (2, 3, 6), (2, 6, 7), (2, 4, 9), (1, 4, 6), (2, 3, 4), (2, 0, 3), (1, 1, 3), (2, 0, 2), (2, 1, 2), (0, 2, 0), (2, 0, 3), (0, 5, 0), (2, 2, 6), (2, 3, 7), (3, 1, 0), (2, 9, 12), (2, 2, 6), (2, 3, 7), (2, 5, 11), (2, 1, 9), (2, 0, 4), (0, 3, 0), (1, 0, 4), (2, 3, 7), (2, 0, 4), (2, 3, 6), (1, 2, 6), (2, 3, 7), (2, 0, 4), (2, 1, 4), (0, 4, 0), (2, 2, 5), (2, 3, 7), (2, 0, 8), (2, 5, 8), (2, 2, 5), (2, 3, 7), (2, 2, 7), (3, 1, 0), (0, 5, 0), (2, 2, 6), (2, 3, 7), (2, 1, 7), (2, 7, 10), (2, 2, 6), (2, 3, 7), (1, 5, 7), (2, 5, 10), (2, 0, 4), (0, 3, 0), (1, 1, 5), (2, 3, 7), (2, 0, 4), (2, 3, 6), (1, 2, 4), (2, 3, 7), (2, 0, 4), (2, 1, 4), (0, 2, 0), (2, 0, 3), (2, 3, 4), (0, 3, 0), (1, 0, 4), (2, 4, 5), (2, 0, 4), (2, 4, 5), (2, 0, 6), (2, 4, 5), (2, 0, 4), (2, 1, 4), (2, 4, 5), (0, 5, 0), (2, 0, 6), (2, 6, 7), (2, 0, 8), (1, 2, 6), (2, 3, 6), (2, 6, 7), (2, 4, 10), (1, 4, 6), (2, 3, 4), (0, 3, 0), (2, 0, 5), (2, 0, 5), (2, 0, 4), (2, 0, 9), (2, 3, 8), (1, 2, 4), (2, 0, 4), (2, 1, 4), (2, 1, 4), (2, 0, 2), (2, 1, 2)] (by decide +kernel)
/-! ### lists that nobody changes yet, each at a place of its own -/
structure FC (F H : Hp) (C : List (Addr × List V)) : Prop where
  nd : (C.map (·.1)).Nodup
  at' : ∀ q ∈ C, H q.1 = none ∧ F q.1 = some (.lst q.2)
theorem FC.nil {F H : Hp} : FC F H [] := ⟨List.nodup_nil, fun q m => absurd m List.not_mem_nil⟩
theorem FC.up {F F' H : Hp} {C : List (Addr × List V)} (h : FC F H C) (s : Same F F') : FC F' H C := ⟨h.nd, fun q m => ⟨(h.at' q m).1, s _ _ (h.at' q m).2⟩⟩
/-- new ones come to them -/
theorem FC.app {F G H F' : Hp} {C D : List (Addr × List V)} (h : FC F H C) (sG : Same F G) (s : Same F F') (th : ∀ c, G c = none → H c = none) (d : FC F' G D) : FC F' H (C ++ D) := by
  refine ⟨?_, fun q m => ?_⟩
  · rw [List.map_append]
    refine List.nodup_append.mpr ⟨h.nd, d.nd, fun a ha b hb e => ?_⟩
    obtain ⟨q, mq, rfl⟩ := List.mem_map.mp ha
    obtain ⟨r, mr, rfl⟩ := List.mem_map.mp hb
    have z := (d.at' r mr).1
    rw [← e, sG _ _ (h.at' q mq).2] at z
    cases z
  · rcases List.mem_append.mp m with m | m
    · exact ⟨(h.at' q m).1, s _ _ (h.at' q m).2⟩
    · exact ⟨th _ (d.at' q m).1, (d.at' q m).2⟩
theorem FC.perm {F H : Hp} {C D : List (Addr × List V)} (h : FC F H C) (p : C.Perm D) : FC F H D := ⟨(p.map _).nodup_iff.mp h.nd, fun q m => h.at' q (p.mem_iff.mpr m)⟩
theorem FC.back {F H H0 : Hp} {C : List (Addr × List V)} (h : FC F H C) (th : ∀ c, H c = none → H0 c = none) : FC F H0 C := ⟨h.nd, fun q m => ⟨th _ (h.at' q m).1, (h.at' q m).2⟩⟩
/-- machines at places of their own -/
structure MR where
  m : Addr
  rs : List Addr
  ess : List (List V)
  M : Mach
def MR.cells (x : MR) : List (Addr × List V) := (x.m, x.rs.map V.ref) :: x.rs.zip x.ess
structure MROk (F : Hp) (x : MR) : Prop where
  len : x.rs.length = x.ess.length
  dat : All2 (fun es row => IsAll F es row) x.ess x.M
  is : Is F (.ref x.m) x.M
theorem MROk.up {F F' : Hp} {x : MR} (h : MROk F x) (s : Same F F') : MROk F' x := ⟨h.len, h.dat.imp fun _ _ z => z.up s, h.is.up s⟩
theorem zip_fst {α β : Type} : ∀ (xs : List α) (ys : List β), xs.length = ys.length → (xs.zip ys).map (·.1) = xs
  | [], [], _ => rfl
  | [], _ :: _, h => by simp at h
  | _ :: _, [], h => by simp at h
  | x :: xs, y :: ys, h => by rw [List.zip_cons_cons, List.map_cons, zip_fst xs ys (by simpa using h)]
/-- a machine drawn, changed no more -/
theorem MaO.mr {mu : Addr → Prop} {H F F1 H1 : Hp} {m : Addr} {rs : List Addr} {ess : List (List V)} {M : Mach} (x : MaO H F1 H1 m rs ess M) (g : Gr mu F H F1 H1) : ∃ F2, Gr mu F H F2 H1 ∧ Same F1 F2 ∧ MROk F2 ⟨m, rs, ess, M⟩ ∧ FC F2 H (MR.cells ⟨m, rs, ess, M⟩) := by
  obtain ⟨F2, g2, s, i, _, on⟩ := x.frz g
  have e1 : (rs.zip ess).map (·.1) = rs := zip_fst rs ess x.len
  refine ⟨F2, g2, s, ⟨x.len, x.dat.imp fun _ _ z => z.up s, i⟩, ?_, fun q mq => ?_⟩
  · show (m :: (rs.zip ess).map (·.1)).Nodup
    rw [e1]
    exact List.nodup_cons.mpr ⟨x.ne, x.nd⟩
  · rcases List.mem_cons.mp mq with rfl | mq
    · exact ⟨x.ow.n, (on _ (.inl rfl)).trans x.ow.h⟩
    · obtain ⟨i, hi⟩ := List.getElem?_of_mem mq
      obtain ⟨h1, h2⟩ := List.getElem?_zip_eq_some.mp hi
      have w := x.rows i q.1 q.2 h1 h2
      exact ⟨w.n, (on _ (.inr (List.mem_of_getElem? h1))).trans w.h⟩
/-! they may be changed again -/
open Classical in
noncomputable def delC (C : List (Addr × List V)) (F : Hp) : Hp := fun c => if c ∈ C.map (·.1) then none else F c
theorem delC_of {C : List (Addr × List V)} {F : Hp} {c : Addr} (h : c ∉ C.map (·.1)) : delC C F c = F c := if_neg h
theorem delC_no {C : List (Addr × List V)} {F : Hp} {c : Addr} (h : c ∈ C.map (·.1)) : delC C F c = none := if_pos h
theorem delC_sub {C : List (Addr × List V)} {F : Hp} : Same (delC C F) F := fun c o h => by
  by_cases e : c ∈ C.map (·.1)
  · rw [delC_no e] at h; cases h
  · rw [delC_of e] at h; exact h
structure Cells (H F G : Hp) (C : List (Addr × List V)) : Prop where
  nd : (C.map (·.1)).Nodup
  ow : ∀ q ∈ C, Ow H F G q.1 (.lst q.2)
theorem FC.thaw {mu : Addr → Prop} {F0 F H G : Hp} {C : List (Addr × List V)} (h : FC F H C) (g : Gr mu F0 H F G) (s0 : Same F0 H) : Gr mu F0 H (delC C F) G ∧ Cells H (delC C F) G C := by
  have no : ∀ c, c ∈ C.map (·.1) → H c = none := fun c m => by
    obtain ⟨q, mq, rfl⟩ := List.mem_map.mp m
    exact (h.at' q mq).1
  refine ⟨⟨fun c o e => ?_, fun c o e => g.fh _ _ (delC_sub _ _ e), fun c o e => g.nw _ _ (delC_sub _ _ e), g.fr, g.th⟩, h.nd, fun q m => ⟨(h.at' q m).1, delC_no (List.mem_map.mpr ⟨q, m, rfl⟩), g.fh _ _ (h.at' q m).2⟩⟩
  have nm : c ∉ C.map (·.1) := fun z => by
    have := no c z
    rw [s0 _ _ e] at this; cases this
  rw [delC_of nm]
  exact g.ff _ _ e
theorem Cells.gr {mu : Addr → Prop} {H F G F' G' : Hp} {C : List (Addr × List V)} (h : Cells H F G C) (g : Gr mu F G F' G') (k : ∀ c, mu c → c ∉ C.map (·.1)) : Cells H F' G' C :=
  ⟨h.nd, fun q m => (h.ow q m).call g fun z => k _ z (List.mem_map.mpr ⟨q, m, rfl⟩)⟩
theorem Cells.gr0 {H F G F' G' : Hp} {C : List (Addr × List V)} (h : Cells H F G C) (g : Gr mu0 F G F' G') : Cells H F' G' C := h.gr g fun _ z => z.elim
/-- one of them is changed -/
theorem Cells.upd {H F G : Hp} {A B : List (Addr × List V)} {a : Addr} {xs ys : List V} (h : Cells H F G (A ++ (a, xs) :: B)) : Cells H F (L2.upd G a (.lst ys)) (A ++ (a, ys) :: B) := by
  have e : (A ++ (a, ys) :: B).map (·.1) = (A ++ (a, xs) :: B).map (·.1) := by
    rw [List.map_append, List.map_append, List.map_cons, List.map_cons]
  have nd := h.nd
  rw [List.map_append, List.map_cons] at nd
  obtain ⟨n1, n2, n3⟩ := List.nodup_append.mp nd
  obtain ⟨n4, n5⟩ := List.nodup_cons.mp n2
  refine ⟨by rw [e]; exact h.nd, fun q m => ?_⟩
  rcases List.mem_append.mp m with m | m
  · refine (h.ow q (List.mem_append_left _ m)).other fun z => ?_
    exact n3 q.1 (List.mem_map.mpr ⟨q, m, rfl⟩) a (List.mem_cons_self ..) z
  · rcases List.mem_cons.mp m with rfl | m
    · exact (h.ow (a, xs) (List.mem_append_right _ (List.mem_cons_self ..))).set
    · refine (h.ow q (List.mem_append_right _ (List.mem_cons_of_mem _ m))).other fun z => ?_
      exact n4 (z ▸ List.mem_map.mpr ⟨q, m, rfl⟩)
theorem Cells.at {H F G : Hp} {A B : List (Addr × List V)} {a : Addr} {xs : List V} (h : Cells H F G (A ++ (a, xs) :: B)) : Ow H F G a (.lst xs) := h.ow (a, xs) (List.mem_append_right _ (List.mem_cons_self ..))
/-! ### the tree of all machines of a size: the program's -/
theorem Gr.newE {mu : Addr → Prop} {F H F1 H1 : Hp} {q : Addr} {o : HO} (a : Gr mu F H F1 H1) (n : H1 q = none) : ∃ F', Gr mu F H F' (upd H1 q o) ∧ F' q = some o ∧ Same F1 F' ∧ Gr mu0 F1 H1 F' (upd H1 q o) := ⟨_, a.new n, upd_same, sm_new (Same.refl F1) (a.fh.free n), (Gr.refl (mu := mu0) a.fh).new n⟩
theorem isall_rep {α : Type} [Dat α] {F : Hp} {x : V} {d : α} (h : Is F x d) : ∀ n : Nat, IsAll F (List.replicate n x) (List.replicate n d)
  | 0 => All2.nil
  | n + 1 => All2.cons h (isall_rep h n)
theorem mao_step {F H F4 G : Hp} {D : Addr} {rs : List Addr} {ess : List (List V)} {Ms : Mach} {es : List V} {row : List Ent} {l : Addr} {mu : Addr → Prop} (g : Gr mu F H F4 G) (x : MaO H F4 G D rs ess Ms) (n : G l = none) (al : IsAll F4 es row) :
    Gr mu F H F4 (upd (upd G l (.lst es)) D (.lst ((rs ++ [l]).map V.ref))) ∧ MaO H F4 (upd (upd G l (.lst es)) D (.lst ((rs ++ [l]).map V.ref))) D (rs ++ [l]) (ess ++ [es]) (Ms ++ [row]) := by
  have g4 := g.own (o := .lst es) n
  have w4 : Ow H F4 (upd G l (.lst es)) l (.lst es) := Ow.mk1 g n
  have x4 := x.gr ((Gr.refl (mu := mu0) g.fh).own (o := .lst es) n) fun c z => z.elim
  exact ⟨g4.set x4.ow.f (.inl x4.ow.n), x4.add w4 (x.offn n) al⟩
def sp_must_size : Sp := fun vs H Q _ => ∃ (R S : Nat), vs = [.int R, .int S] ∧ 1 ≤ R ∧ R ≤ 4 ∧ 2 ≤ S ∧ S ≤ 4 ∧ R * S ≤ 4 ∧ Q .non H
theorem ok_must_size (t : Tx K mg) : FnOk P w K mg base CX0 1 t.a_must_size t.fd_must_size ["rows", "signs"] sp_must_size := by
  refine t.F_must_size.ok sc_must_size (fun vs H Q E h => ?_) (fun cdv A outer s H vs Q E hr h => ?_)
  · obtain ⟨R, S, rfl, _⟩ := h
    rfl
  · obtain ⟨R, S, rfl, R1, R4, S2, S4, RS, q⟩ := h
    refine ⟨_, (pss_one (ps_if (PW.pt (pw_or (pt_not (pt_chain op_le op_le pe_int (pv 0) (pe_glob (v := .int 4) (by rfl) t.m_MOST_ROWS_tree ⟨_, rfl⟩))) (pw_or (pt_not (pt_chain op_le op_le pe_int (pv 1) (pe_glob (v := .int 4) (by rfl) t.m_MOST_ROWS_tree ⟨_, rfl⟩))) (pw_or1 (pt_cmpR op_gt (pe_op op_mul (pv 0) (pv 1)) (pe_glob (v := .int 4) (by rfl) t.m_MOST_ENTRIES ⟨_, rfl⟩) (nomark _)))))) (pss_one ps_never) pss_nil)), ?_⟩
    have rs : (R : Int) * (S : Int) ≤ 4 := by exact_mod_cast RS
    exact ⟨_, rfl, _, _, rfl, rfl, _, rfl, ifT (decide_eq_true (by omega)) ⟨_, _, rfl, rfl, _, rfl, ifF (by rw [decide_eq_true (by omega)]; rfl) ⟨_, rfl, _, _, rfl, rfl, _, rfl, ifT (decide_eq_true (by omega)) ⟨_, _, rfl, rfl, _, rfl, ifF (by rw [decide_eq_true (by omega)]; rfl) ⟨_, rfl, _, rfl, _, _, rfl, rfl, .inl ⟨by omega, by omega⟩, _, _, rfl, rfl, _, rfl, ifF (decide_eq_false (by show ¬ (4 : Int) < (R : Int) * (S : Int); omega)) q⟩⟩⟩⟩⟩
def sp_empty : Sp := fun vs H Q _ => ∃ (F : Hp) (R S : Nat), vs = [.int R, .int S] ∧ Same F H ∧ R ≤ 4 ∧ S ≤ 4 ∧ ∀ (F' H' : Hp) (m : Addr) (rs : List Addr) (ess : List (List V)), Gr mu0 F H F' H' → MaO H F' H' m rs ess (empM R S) → Q (.ref m) H'
theorem ok_empty_machine (t : Tx K mg) : FnOk P w K mg base CX0 1 t.a_empty_machine t.fd_empty_machine ["rows", "signs"] sp_empty := by
  refine t.F_empty_machine.ok sc_empty_machine (fun vs H Q E h => ?_) (fun cdv A outer s H vs Q E hr h => ?_)
  · obtain ⟨F, R, S, rfl, _⟩ := h
    rfl
  · obtain ⟨F, R, S, rfl, sF, R4, S4, q⟩ := h
    refine ⟨_, (pss_one (ps_ret (pe_lc (own := [("row", 2)]) (g := gName 2) (tt := tYes) rfl sc_empty_machine.nd (pi_range1 (by rfl) t.n_range (pa_cons (pv 0) pa_nil)) (blkOk_by (N := N_empty_machine) (sc := defScope s_empty_machine) (by decide +kernel)) (fun _ _ _ _ _ => (pg_name (i := 2) sc_empty_machine.nd rfl (by first | exact Or.inl rfl | exact Or.inr rfl))) (fun _ _ _ _ _ => pts_nil) (fun _ _ _ _ _ => (pe_op op_rep (pe_lst (pa_cons (pe_tup pa_nil) pa_nil)) (pv 1)))))), ?_⟩
    have g0 : Gr mu0 F H F H := Gr.refl sF
    refine ⟨_, rfl, (R : Int), rfl, by omega, by omega, fun D nD => lc_range (lo := 0) (n := ((R : Int)).toNat) (fun i G => ∃ (F1 : Hp) (rs : List Addr) (ess : List (List V)), Gr mu0 F H F1 G ∧ MaO H F1 G D rs ess (List.replicate i (List.replicate S .emp)))
      ⟨F, [], [], g0.own nD, ⟨Ow.mk1 g0 nD, List.nodup_nil, (fun z => nomatch z), rfl, fun i r es h _ => (by cases h), All2.nil⟩⟩ ?_ ?_⟩
    · rintro i G hi ⟨F1, rs, ess, g, x⟩
      refine ⟨rfl, yes ⟨nil_le, fun e ne => ⟨one_le, fun l nl => ?_⟩⟩⟩
      have k1 := (Gr.refl (mu := mu0) g.fh).new (o := .tup []) ne
      have ie : Is (upd F1 e (.tup [])) (.ref e) Ent.emp := ⟨e, rfl, upd_same⟩
      generalize upd F1 e (.tup []) = F2 at k1 ie
      generalize upd G e (.tup []) = G2 at k1 nl ⊢
      have k2 := k1.own (o := .lst [.ref e]) nl
      have hl : (upd G2 l (.lst [.ref e])) l = some (.lst [.ref e]) := upd_same
      generalize upd G2 l (.lst [.ref e]) = G3 at k2 hl ⊢
      have x3 := x.gr k2 fun c z => z.elim
      have g3 := g.trans k2
      refine ⟨_, rfl, l, (S : Int), _, rfl, rfl, hl, by omega, by omega, le_size (by show 1 * _ ≤ _; omega), fun r nr => ?_⟩
      have es : (List.replicate ((S : Int)).toNat [V.ref e]).flatten = List.replicate S (V.ref e) := by rw [List.flatten_replicate_singleton, Int.toNat_natCast]
      rw [es]
      have lrs : rs.length = i := by rw [x.len, x.dat.1, List.length_replicate]
      obtain ⟨g4, x4⟩ := mao_step g3 x3 nr (isall_rep ie S)
      refine ⟨_, (x3.ow.own nr).h, by rw [List.length_map]; exact lt_size (by omega), ?_⟩
      have e1 : rs.map V.ref ++ [V.ref r] = (rs ++ [r]).map V.ref := by rw [List.map_append]; rfl
      rw [e1]
      exact ⟨F2, rs ++ [r], _, g4, by rw [List.replicate_succ']; exact x4⟩
    · rintro G ⟨F1, rs, ess, g, x⟩
      rw [Int.toNat_natCast] at x
      exact q F1 G D rs ess g x
def sp_with_entry : Sp := fun vs H Q _ => ∃ (F : Hp) (m v : V) (M : Mach) (R S r s : Nat) (e : Ent), vs = [m, .int r, .int s, v] ∧ Same F H ∧ Is F m M ∧ MOk M R S ∧ Is F v e ∧ r < R ∧ s < S ∧ ∀ (H' : Hp) (u : Addr) (rs : List Addr) (ess : List (List V)), Gr mu0 F H F H' → MaO H F H' u rs ess (setE M r s e) → Q (.ref u) H'
theorem ok_with_entry (t : Tx K mg) : FnOk P w K mg base CX0 1 t.a_with_entry t.fd_with_entry ["machine", "row", "sign", "entry"] sp_with_entry := by
  refine t.F_with_entry.ok sc_with_entry (fun vs H Q E h => ?_) (fun cdv A outer s H vs Q E hr h => ?_)
  · obtain ⟨F, m, v, M, R, S, r, sg, e, rfl, _⟩ := h
    rfl
  · obtain ⟨F, m, v, M, R, S, r, sg, e, rfl, sF, hm, hM, hv, hr', hs', q⟩ := h
    refine ⟨_, (pss_cons (ps_setLc (i := 4) (own := [("entries", 5)]) (g := gName 5) (tt := tYes) rfl sc_with_entry.nd rfl rfl (sw_true rfl rfl rfl (by decide +kernel)) (pi_list (pv 0)) (blkOk_by (N := N_with_entry) (sc := defScope s_with_entry) (by decide +kernel)) (fun _ _ _ _ _ => (pg_name (i := 5) sc_with_entry.nd rfl (by first | exact Or.inl rfl | exact Or.inr rfl))) (fun _ _ _ _ _ => pts_nil) (fun _ _ _ _ _ => (pe_callTy (T := "list") (crK (K := K) (r := rListQ) rfl call_listQ) (by rfl) t.n_list (by decide +kernel) (pa_cons (pv 5) pa_nil))))
      (pss_cons (ps_asg (pv 3) (pg_sub (pe_ix ix_list (pv 4) (pv 1) (fun _ _ => rfl)) (pv 2) set_list))
      (pss_one (ps_ret (pv 4))))), ?_⟩
    have g3 : Gr mu0 F H F H := Gr.refl sF
    obtain ⟨bm, bv, rfl, hbm, hbv⟩ := hm
    have lM : M.length = R := hM.len
    have R4 := hM.r4
    refine ⟨_, rfl, bm, rfl, ⟨_, SqL.of (g3.fh _ _ hbm)⟩, fun D nD => lc_list (K := K) (a := bm) (xs := bv) (fun i G2 => ∃ (rs : List Addr) (ess : List (List V)), Gr mu0 F H F G2 ∧ MaO H F G2 D rs ess (M.take i))
      ⟨[], [], g3.own nD, ⟨Ow.mk1 g3 nD, List.nodup_nil, (fun z => nomatch z), rfl, fun i r es h _ => (by cases h), All2.nil⟩⟩ (fun i G2 _ ⟨_, _, g, _⟩ => SqL.of (g.fh _ _ hbm)) ?_ ?_⟩
    · rintro i y G2 hi ⟨rs, ess, g, x⟩
      obtain ⟨row, hMi, ra, es, rfl, hra, hes⟩ := hbv.get' hi
      have il : i < M.length := (List.getElem?_eq_some_iff.mp hMi).1
      have lrs : rs.length ≤ i := by rw [x.len, x.dat.1, List.length_take]; omega
      refine ⟨rfl, yes ⟨_, rfl, ra, es, rfl, .inl (SqL.of (g.fh _ _ hra)), fun l nl => ?_⟩⟩
      obtain ⟨g4, x4⟩ := mao_step g x nl hes
      refine ⟨_, (x.ow.own nl).h, by rw [List.length_map]; exact lt_size (by omega), ?_⟩
      have e1 : rs.map V.ref ++ [V.ref l] = (rs ++ [l]).map V.ref := by rw [List.map_append]; rfl
      rw [e1]
      refine ⟨rs ++ [l], ess ++ [es], g4, ?_⟩
      rw [List.take_add_one, hMi]
      exact x4
    · rintro G2 ⟨rs, ess, g, x⟩
      rw [hbv.1, List.take_length] at x
      have hi : r < rs.length := by rw [x.len, x.dat.1]; omega
      have hrs : rs[r]? = some rs[r] := List.getElem?_eq_getElem hi
      have hes : ess[r]? = some (ess[r]'(by rw [← x.len]; exact hi)) := List.getElem?_eq_getElem _
      obtain ⟨row, hrow, al⟩ := x.dat.get' hes
      have w7 := x.rows _ _ _ hrs hes
      have lr := hM.row row (List.mem_of_getElem? hrow)
      refine ⟨_, rfl, _, rfl, _, rfl, D, _, _, _, rfl, rfl, SqL.of x.ow.h, atI_nat (j := r) (by rw [List.getElem?_map, hrs]; rfl), ?_⟩
      refine ⟨_, rfl, _, _, (sg : Int), _, rfl, rfl, w7.h, ixN_of (by omega) (by rw [al.1, lr]; omega), ?_⟩
      refine ⟨_, rfl, ?_⟩
      have x8 := x.put (j := ((sg : Nat) : Int).toNat) hrs hes hrow hv
      have e : setE M r sg e = M.set r (row.set ((sg : Nat) : Int).toNat e) := by unfold setE; rw [hrow, Int.toNat_natCast]; rfl
      rw [← e] at x8
      exact q _ D rs _ (g.set w7.f (.inl w7.n)) x8
def sp_all_entries : Sp := fun vs H Q _ => ∃ (F : Hp) (m : V) (M : Mach), vs = [m] ∧ Same F H ∧ Is F m M ∧ M.length ≤ 4 ∧ (∀ row ∈ M, row.length ≤ 4) ∧ ∀ (F' H' : Hp) (u : V), Gr mu0 F H F' H' → Is F' u (fullE M) → Q u H'
theorem fullE_snoc {M : Mach} {i : Nat} {row : List Ent} (h : M[i]? = some row) : fullE (M.take (i + 1)) = fullE (M.take i) ++ row.filter fun e => decide (e ≠ .emp) := by
  unfold fullE
  rw [List.take_add_one, h, List.flatten_append, List.filter_append]
  show _ ++ List.filter _ ([row].flatten) = _
  rw [List.flatten_singleton]
theorem ok_all_entries (t : Tx K mg) : FnOk P w K mg base CX0 1 t.a_all_entries t.fd_all_entries ["machine"] sp_all_entries := by
  refine t.F_all_entries.ok sc_all_entries (fun vs H Q E h => ?_) (fun cdv A outer s H vs Q E hr h => ?_)
  · obtain ⟨F, m, M, rfl, _⟩ := h
    rfl
  · obtain ⟨F, m, M, rfl, sF, hm, lM, lr, q⟩ := h
    refine ⟨_, (pss_cons (ps_set (i := 1) sc_all_entries.nd rfl (by first | exact Or.inl rfl | exact Or.inr rfl) (pe_lst pa_nil))
      (pss_cons (ps_for PassesOwn.never rfl (pi_list (pv 0)) (pg_name (i := 2) sc_all_entries.nd rfl (by first | exact Or.inl rfl | exact Or.inr rfl)) (pss_one (ps_set (i := 1) sc_all_entries.nd rfl (by first | exact Or.inl rfl | exact Or.inr rfl) (pe_op op_cat (pv 1) (pe_lc (own := [("entry", 3)]) (g := gName 3) rfl sc_all_entries.nd (pi_list (pv 2)) (blkOk_by (N := N_all_entries) (sc := defScope s_all_entries) (by decide +kernel)) (fun _ _ _ _ _ => (pg_name (i := 3) sc_all_entries.nd rfl (by first | exact Or.inl rfl | exact Or.inr rfl))) (fun _ _ _ _ _ => (pts_one (pt_cmpR (orK (K := K) (r := rNeD) rfl (op_neD hr.units)) (pv 3) (pe_tup pa_nil) (nomark _)))) (fun _ _ _ _ _ => (pv 3)))))))
      (pss_one (ps_ret (pv 1))))), ?_⟩
    have g0 : Gr mu0 F H F H := Gr.refl sF
    obtain ⟨am, xs, rfl, ham, hxs⟩ := hm
    refine ⟨nil_le, fun D nD => ?_⟩
    have gD := g0.new (o := .lst []) nD
    have hD : (upd F D (.lst [])) D = some (.lst []) := upd_same
    generalize upd F D (.lst []) = F0 at gD hD
    generalize upd H D (.lst []) = G0 at gD ⊢
    refine ⟨_, rfl, am, rfl, ⟨_, SqL.of (gD.fh _ _ (gD.ff _ _ ham))⟩, for_list (K := K) (a := am) (xs := xs) (fun i σ G => ∃ (F1 : Hp) (D : Addr) (us : List V) (v2 v3 : Option V), σ = [some (.ref am), some (.ref D), v2, v3] ∧ Gr mu0 F H F1 G ∧ F1 D = some (.lst us) ∧ IsAll F1 us (fullE (M.take i)) ∧ us.length ≤ 4 * i)
      ⟨F0, D, [], none, none, rfl, gD, hD, All2.nil, Nat.le_refl _⟩ (fun i σ G _ ⟨_, _, _, _, _, _, g, _⟩ => SqL.of (g.fh _ _ (g.ff _ _ ham))) ?_ ?_⟩
    · rintro i x σ G hi ⟨F1, D, us, v2, v3, rfl, g, hD, al, lu⟩
      obtain ⟨row, hMi, ra, es, rfl, hra, hes⟩ := hxs.get' hi
      have il : i < M.length := (List.getElem?_eq_some_iff.mp hMi).1
      have l4 := lr row (List.mem_of_getElem? hMi)
      have les : es.length = row.length := hes.1
      refine ⟨_, rfl, _, rfl, ra, rfl, ⟨_, SqL.of (g.fh _ _ (g.ff _ _ hra))⟩, fun Z nZ => lc_list (K := K) (a := ra) (xs := es) (fun j G2 => ∃ (ws : List V), Gr mu0 F1 G F1 G2 ∧ Ow G F1 G2 Z (.lst ws) ∧ IsAll F1 ws ((row.take j).filter fun e : Ent => decide (e ≠ Ent.emp)) ∧ ws.length ≤ j)
        ⟨[], (Gr.refl g.fh).own nZ, Ow.mk1 (Gr.refl (mu := mu0) g.fh) nZ, All2.nil, Nat.le_refl _⟩ (fun j G2 _ ⟨_, g2, _⟩ => SqL.of (g2.fh _ _ (g.ff _ _ hra))) ?_ ?_⟩
      · rintro j y G2 hj ⟨ws, g2, wz, aw, lw⟩
        obtain ⟨e, he, ie⟩ := hes.get' hj
        have jl : j < es.length := (List.getElem?_eq_some_iff.mp hj).1
        have iF := ie.up g.ff
        refine ⟨rfl, _, rfl, nil_le, fun z nz => ?_⟩
        have g3 := g2.own (o := .tup []) nz
        have wz3 := wz.own (u := .tup []) nz
        have e1 : (row.take (j + 1)).filter (fun e => decide (e ≠ .emp)) = (row.take j).filter (fun e => decide (e ≠ .emp)) ++ if e = .emp then [] else [e] := by
          rw [List.take_add_one, he, List.filter_append]
          congr 1
          show List.filter _ [e] = _
          rw [List.filter_cons]
          by_cases c : e = .emp
          · rw [if_pos c, c]; rfl
          · rw [if_neg c, decide_eq_true c]; rfl
        refine ne_dat (a := e) (b := Ent.emp) (iF.up g3.fh) ⟨z, rfl, upd_same⟩ ?_
        generalize upd G2 z (.tup []) = G3 at g3 wz3 ⊢
        refine ⟨_, rfl, ?_⟩
        by_cases c : e = .emp
        · refine ifF (by rw [decide_eq_true c]; rfl) ⟨ws, g3, wz3, ?_, by omega⟩
          rw [e1, if_pos c, List.append_nil]; exact aw
        · refine ifT (by rw [decide_eq_false c]; rfl) ⟨_, rfl, ws, wz3.h, lt_size (by omega), ws ++ [y], g3.set wz3.f (.inl wz3.n), wz3.set, ?_, by rw [List.length_append]; exact Nat.succ_le_succ lw⟩
          rw [e1, if_neg c]; exact aw.app (All2.one iF)
      · rintro G2 ⟨ws, g2, wz, aw, lw⟩
        rw [les, List.take_length] at aw
        refine ⟨D, Z, us, ws, rfl, rfl, g2.fh _ _ hD, wz.h, le_size (by omega), fun N nN => ?_⟩
        have g3 := (g.trans g2).new (o := .lst (us ++ ws)) nN
        have s3 : Same F1 (upd F1 N (.lst (us ++ ws))) := sm_up (g2.fh.free nN)
        refine ⟨_, N, us ++ ws, _, _, rfl, g3, upd_same, ?_, by rw [List.length_append]; omega⟩
        rw [fullE_snoc hMi]
        exact (al.up s3).app (aw.up s3)
    · rintro σ G ⟨F1, D, us, v2, v3, rfl, g, hD, al, lu⟩
      rw [hxs.1, List.take_length] at al
      exact ⟨_, rfl, q F1 G _ g ⟨D, us, rfl, hD, al⟩⟩
theorem fullE_ne {M : Mach} {e : Ent} (h : e ∈ fullE M) : e ≠ .emp := of_decide_eq_true (List.mem_filter.mp h).2
theorem flat_len : ∀ {M : Mach}, (∀ row ∈ M, row.length ≤ 4) → M.flatten.length ≤ 4 * M.length
  | [], _ => Nat.le_refl _
  | r :: M, h => by
    rw [List.flatten_cons, List.length_append, List.length_cons]
    have h1 := h r (List.mem_cons_self ..)
    have h2 := flat_len (M := M) fun row m => h row (List.mem_cons_of_mem _ m)
    omega
theorem fullE_len {M : Mach} (h : M.length ≤ 4) (k : ∀ row ∈ M, row.length ≤ 4) : (fullE M).length ≤ 16 := by
  have h1 : (fullE M).length ≤ M.flatten.length := List.length_filter_le ..
  have h2 := flat_len k
  omega
theorem foldl_max : ∀ (l : List Int) (a : Int), l.foldl max a ∈ a :: l ∧ ∀ y ∈ a :: l, y ≤ l.foldl max a
  | [], a => ⟨List.mem_cons_self .., fun y m => by
      have e : y = a := by simpa using m
      rw [e]; exact Int.le_refl _⟩
  | x :: l, a => by
    obtain ⟨h1, h2⟩ := foldl_max l (max a x)
    rw [List.foldl_cons]
    have hm := h2 _ (List.mem_cons_self ..)
    refine ⟨?_, fun y m => ?_⟩
    · rcases List.mem_cons.mp h1 with e | m
      · rw [e]
        rcases Int.le_total a x with c | c
        · rw [Int.max_eq_right c]; exact List.mem_cons_of_mem _ (List.mem_cons_self ..)
        · rw [Int.max_eq_left c]; exact List.mem_cons_self ..
      · exact List.mem_cons_of_mem _ (List.mem_cons_of_mem _ m)
    · rcases List.mem_cons.mp m with e | m
      · rw [e]; omega
      · rcases List.mem_cons.mp m with e | m
        · rw [e]; omega
        · exact h2 y (List.mem_cons_of_mem _ m)
def sp_named (f : Ent → Int) : Sp := fun vs H Q _ => ∃ (F : Hp) (m : V) (M : Mach), vs = [m] ∧ Same F H ∧ Is F m M ∧ M.length ≤ 4 ∧ (∀ row ∈ M, row.length ≤ 4) ∧ ∀ (F' H' : Hp), Gr mu0 F H F' H' → Q (.int (nmd f M)) H'
theorem ok_named_signs (t : Tx K mg) : FnOk P w K mg base CX0 2 t.a_named_signs t.fd_named_signs ["machine"] (sp_named ePut) := by
  refine t.F_named_signs.ok sc_named_signs (fun vs H Q E h => ?_) (fun cdv A outer s H vs Q E hr h => ?_)
  · obtain ⟨F, m, M, rfl, _⟩ := h
    rfl
  · obtain ⟨F, m, M, rfl, sF, hm, lM, lr, q⟩ := h
    refine ⟨_, (pss_one (ps_ret (pe_op op_add (pe_callB (id := "max") (cr_max rfl) (by rfl) t.n_max (by decide +kernel) (pa_cons (pe_op op_cat (pe_lst (pa_cons pe_int pa_nil)) (pe_lc (own := [("entry", 1)]) (g := gName 1) (tt := tYes) rfl sc_named_signs.nd (pi_list (pe_call (ok_all_entries t) (hr.mono (by decide)) (by rfl) t.m_all_entries t.F_all_entries.kp t.b_all_entries .nil pass0 (pa_cons (pv 0) pa_nil))) (blkOk_by (N := N_named_signs) (sc := defScope s_named_signs) (by decide +kernel)) (fun _ _ _ _ _ => (pg_name (i := 1) sc_named_signs.nd rfl (by first | exact Or.inl rfl | exact Or.inr rfl))) (fun _ _ _ _ _ => pts_nil) (fun _ _ _ _ _ => (pe_ix (ixK (K := K) (r := rIxT) rfl ix_tup) (pv 1) pe_int (fun _ _ => rfl))))) pa_nil)) pe_int))), ?_⟩
    have g0 : Gr mu0 F H F H := Gr.refl sF
    refine ⟨one_le, fun z nz => ?_⟩
    have g1 := g0.new (o := .lst [.int 0]) nz
    have hz : (upd F z (.lst [.int 0])) z = some (.lst [.int 0]) := upd_same
    generalize upd F z (.lst [.int 0]) = F1 at g1 hz
    generalize upd H z (.lst [.int 0]) = H1 at g1 ⊢
    refine ⟨_, rfl, F1, m, M, rfl, g1.fh, hm.up g1.ff, lM, lr, fun F2 H2 u g2 iu => ?_⟩
    have hz2 := g2.ff _ _ hz
    have g2 := g1.trans g2
    obtain ⟨a, xs, rfl, ha, hxs⟩ := iu
    have lf := fullE_len lM lr
    refine ⟨a, rfl, ⟨_, SqL.of (g2.fh _ _ ha)⟩, fun Z nZ => lc_list (K := K) (a := a) (xs := xs) (fun j G2 => Gr mu0 F H F2 G2 ∧ Ow H F2 G2 Z (.lst (((fullE M).take j).map fun e => V.int (ePut e))))
      ⟨g2.own nZ, Ow.mk1 g2 nZ⟩ (fun j G2 _ ⟨g, _⟩ => SqL.of (g.fh _ _ ha)) ?_ ?_⟩
    · rintro j y G2 hj ⟨g, wz⟩
      obtain ⟨e, he, ie⟩ := hxs.get' hj
      have ne := fullE_ne (List.mem_of_getElem? he)
      cases e with
      | emp => exact absurd rfl ne
      | go p w r =>
        obtain ⟨T, rfl, hT⟩ := ie
        have hT : F2 T = some (.tup [.int p, .int w, .int r]) := hT
        refine ⟨rfl, yes ⟨_, rfl, T, _, _, _, rfl, rfl, SqT.of (g.fh _ _ hT), atI_nat (j := 0) rfl, _, wz.h, by rw [List.length_map, List.length_take]; exact lt_size (by omega), ?_⟩⟩
        rw [List.take_add_one, he, List.map_append]
        exact ⟨g.set wz.f (.inl wz.n), wz.set⟩
    · rintro G2 ⟨g, wz⟩
      rw [hxs.1, List.take_length] at wz
      refine ⟨z, Z, _, _, rfl, rfl, g.fh _ _ hz2, wz.h, le_size (by rw [List.length_map]; show 1 + _ ≤ _; omega), fun N nN => ?_⟩
      have gN := g.own (o := .lst ([.int 0] ++ (fullE M).map fun e => V.int (ePut e))) nN
      have hN : (upd G2 N (.lst ([.int 0] ++ (fullE M).map fun e => V.int (ePut e)))) N = some (.lst ((0 :: (fullE M).map ePut).map V.int)) := by
        rw [upd_same, List.map_cons, List.map_map]; rfl
      generalize upd G2 N (.lst ([.int 0] ++ (fullE M).map fun e => V.int (ePut e))) = G3 at gN hN ⊢
      refine ⟨N, 0 :: (fullE M).map ePut, rfl, SqL.of hN, Nat.succ_pos _, fun mx h1 h2 => ⟨_, _, rfl, rfl, ?_⟩⟩
      have em : mx = ((fullE M).map ePut).foldl max 0 := by
        obtain ⟨k1, k2⟩ := foldl_max ((fullE M).map ePut) 0
        have a1 := h2 _ k1
        have a2 := k2 _ h1
        omega
      rw [em]
      exact q F2 G3 gN
theorem ok_named_rows (t : Tx K mg) : FnOk P w K mg base CX0 2 t.a_named_rows t.fd_named_rows ["machine"] (sp_named eGo) := by
  refine t.F_named_rows.ok sc_named_rows (fun vs H Q E h => ?_) (fun cdv A outer s H vs Q E hr h => ?_)
  · obtain ⟨F, m, M, rfl, _⟩ := h
    rfl
  · obtain ⟨F, m, M, rfl, sF, hm, lM, lr, q⟩ := h
    refine ⟨_, (pss_one (ps_ret (pe_op op_add (pe_callB (id := "max") (cr_max rfl) (by rfl) t.n_max (by decide +kernel) (pa_cons (pe_op op_cat (pe_lst (pa_cons pe_int pa_nil)) (pe_lc (own := [("entry", 1)]) (g := gName 1) (tt := tYes) rfl sc_named_rows.nd (pi_list (pe_call (ok_all_entries t) (hr.mono (by decide)) (by rfl) t.m_all_entries t.F_all_entries.kp t.b_all_entries .nil pass0 (pa_cons (pv 0) pa_nil))) (blkOk_by (N := N_named_rows) (sc := defScope s_named_rows) (by decide +kernel)) (fun _ _ _ _ _ => (pg_name (i := 1) sc_named_rows.nd rfl (by first | exact Or.inl rfl | exact Or.inr rfl))) (fun _ _ _ _ _ => pts_nil) (fun _ _ _ _ _ => (pe_ix (ixK (K := K) (r := rIxT) rfl ix_tup) (pv 1) pe_int (fun _ _ => rfl))))) pa_nil)) pe_int))), ?_⟩
    have g0 : Gr mu0 F H F H := Gr.refl sF
    refine ⟨one_le, fun z nz => ?_⟩
    have g1 := g0.new (o := .lst [.int 0]) nz
    have hz : (upd F z (.lst [.int 0])) z = some (.lst [.int 0]) := upd_same
    generalize upd F z (.lst [.int 0]) = F1 at g1 hz
    generalize upd H z (.lst [.int 0]) = H1 at g1 ⊢
    refine ⟨_, rfl, F1, m, M, rfl, g1.fh, hm.up g1.ff, lM, lr, fun F2 H2 u g2 iu => ?_⟩
    have hz2 := g2.ff _ _ hz
    have g2 := g1.trans g2
    obtain ⟨a, xs, rfl, ha, hxs⟩ := iu
    have lf := fullE_len lM lr
    refine ⟨a, rfl, ⟨_, SqL.of (g2.fh _ _ ha)⟩, fun Z nZ => lc_list (K := K) (a := a) (xs := xs) (fun j G2 => Gr mu0 F H F2 G2 ∧ Ow H F2 G2 Z (.lst (((fullE M).take j).map fun e => V.int (eGo e))))
      ⟨g2.own nZ, Ow.mk1 g2 nZ⟩ (fun j G2 _ ⟨g, _⟩ => SqL.of (g.fh _ _ ha)) ?_ ?_⟩
    · rintro j y G2 hj ⟨g, wz⟩
      obtain ⟨e, he, ie⟩ := hxs.get' hj
      have ne := fullE_ne (List.mem_of_getElem? he)
      cases e with
      | emp => exact absurd rfl ne
      | go p w r =>
        obtain ⟨T, rfl, hT⟩ := ie
        have hT : F2 T = some (.tup [.int p, .int w, .int r]) := hT
        refine ⟨rfl, yes ⟨_, rfl, T, _, _, _, rfl, rfl, SqT.of (g.fh _ _ hT), atI_nat (j := 2) rfl, _, wz.h, by rw [List.length_map, List.length_take]; exact lt_size (by omega), ?_⟩⟩
        rw [List.take_add_one, he, List.map_append]
        exact ⟨g.set wz.f (.inl wz.n), wz.set⟩
    · rintro G2 ⟨g, wz⟩
      rw [hxs.1, List.take_length] at wz
      refine ⟨z, Z, _, _, rfl, rfl, g.fh _ _ hz2, wz.h, le_size (by rw [List.length_map]; show 1 + _ ≤ _; omega), fun N nN => ?_⟩
      have gN := g.own (o := .lst ([.int 0] ++ (fullE M).map fun e => V.int (eGo e))) nN
      have hN : (upd G2 N (.lst ([.int 0] ++ (fullE M).map fun e => V.int (eGo e)))) N = some (.lst ((0 :: (fullE M).map eGo).map V.int)) := by
        rw [upd_same, List.map_cons, List.map_map]; rfl
      generalize upd G2 N (.lst ([.int 0] ++ (fullE M).map fun e => V.int (eGo e))) = G3 at gN hN ⊢
      refine ⟨N, 0 :: (fullE M).map eGo, rfl, SqL.of hN, Nat.succ_pos _, fun mx h1 h2 => ⟨_, _, rfl, rfl, ?_⟩⟩
      have em : mx = ((fullE M).map eGo).foldl max 0 := by
        obtain ⟨k1, k2⟩ := foldl_max ((fullE M).map eGo) 0
        have a1 := h2 _ k1
        have a2 := k2 _ h1
        omega
      rw [em]
      exact q F2 G3 gN

theorem gz_merge {l : List PI} (h : Nd l) (x : Int) : gz (merge [] (told l)) x = gz l x := by
  rw [merge_nd (l := []) (by rw [List.nil_append]; exact told_nd h), List.nil_append, gz_told h]
def sp_met_at : Sp := fun vs H Q _ => ∃ (F : Hp) (m : V) (M : Mach) (R S : Nat), vs = [m] ∧ Same F H ∧ Is F m M ∧ MOk M R S ∧ ∀ (F' H' : Hp) (T : Addr) (k : Nat) (c : Cfg), Gr mu0 F H F' H' → Gone M 200 k c → F' T = some (.tup [.int c.r, .int (gz c.l c.s)]) → Q (.ref T) H'
theorem ok_met_at (t : Tx K mg) : FnOk P w K mg base CX0 5 t.a_met_at t.fd_met_at ["machine"] sp_met_at := by
  refine t.F_met_at.ok sc_met_at (fun vs H Q E h => ?_) (fun cdv A outer s H vs Q E hr h => ?_)
  · obtain ⟨F, m, M, R, S, rfl, _⟩ := h
    rfl
  · obtain ⟨F, m, M, R, S, rfl, sF, hm, hM, q⟩ := h
    refine ⟨_, (pss_cons (ps_asg (pe_ix ix_tup (pe_call (ok_run t) (hr.mono (by decide)) (by rfl) t.m_run t.F_run.kp t.b_run .nil pass0 (pa_cons (pv 0) (pa_cons (pe_glob (v := .int 200) (by rfl) t.m_MOST_STEPS ⟨_, rfl⟩) pa_nil))) pe_int (fun _ _ => rfl)) (pg_tup rfl (pgs_cons (pg_name (i := 1) sc_met_at.nd rfl (by first | exact Or.inl rfl | exact Or.inr rfl)) (pgs_cons (pg_name (i := 2) sc_met_at.nd rfl (by first | exact Or.inl rfl | exact Or.inr rfl)) (pgs_cons (pg_name (i := 3) sc_met_at.nd rfl (by first | exact Or.inl rfl | exact Or.inr rfl)) pgs_nil)))))
      (pss_one (ps_ret (pe_tup (pa_cons (pv 1) (pa_cons (pe_dget2 (hu_of hr) (pe_callTy (T := "dict") (call_dictQ rfl) (by rfl) t.n_dict (by decide +kernel) (pa_cons (pv 3) pa_nil)) (pv 2) pe_int ⟨by rfl, by rfl, by rfl, by rfl⟩) pa_nil)))))), ?_⟩
    refine ⟨_, rfl, F, m, M, R, S, 200, rfl, sF, hm, hM, by decide, fun F1 H1 l u v xs k c g1 go wl il wu wv => ?_⟩
    obtain ⟨ok, _⟩ := stepsC_ok hM go.stp
    refine ⟨v, _, _, _, rfl, rfl, SqT.of wv.h, atI_nat (j := 2) rfl, u, _, rfl, SqT.of wu.h, rfl, _, _, rfl, _, _, rfl, _, _, rfl, rfl, ?_⟩
    refine ⟨_, rfl, _, rfl, dict_pairs (il.up g1.fh) (SqL.of wl.h) fun d nd => ?_⟩
    have g2 := g1.own (o := .dK (dI (merge [] (told c.l)))) nd
    have hd : (upd H1 d (.dK (dI (merge [] (told c.l))))) d = some (.dK (dI (merge [] (told c.l)))) := upd_same
    generalize upd H1 d (.dK (dI (merge [] (told c.l)))) = H2 at g2 hd ⊢
    refine ⟨d, rfl, .inl ⟨_, .inl hd⟩, _, rfl, _, DGet.k (k := Sum.inl c.s) hd, ?_⟩
    rw [dI_val, getD_int]
    refine ⟨two_le, fun T nT => ?_⟩
    have e : (look (merge [] (told c.l)) c.s).getD 0 = gz c.l c.s := gz_merge ok.nd c.s
    rw [e]
    exact q _ _ T k c (g2.new nT) go upd_same
/-! ### what stands behind a statement, met once: a word that holds behind it -/
section
variable {X : Cx} {st : Stmt} {T : TS}
def tJoin (T : TS) : TS := fun D σ H => ∃ Pv : St → Hp → Prop, T { D with nx := Pv } σ H ∧ ∀ σ' H', Pv σ' H' → D.nx σ' H'
theorem ps_join (h : PS X st T) : PS X st (tJoin T) := by
  refine ⟨fun pins s σ H D I hq => ?_⟩
  obtain ⟨Pv, h1, h2⟩ := hq
  refine thn (h.run pins s σ H { D with nx := Pv } I h1) fun f s1 q => ?_
  cases f with
  | next =>
    obtain ⟨σ', H', I', q⟩ := q
    exact ⟨σ', H', I', h2 σ' H' q⟩
  | ret v => exact q
  | brk => exact q
  | cont => exact q
end
/-! ### the children of a node: the program's -/
def kidA (M : Mach) (r s : Nat) (p : Nat) (w : Int) (k : Nat) : List Mach := (List.range k).map fun (g : Nat) => setE M r s (.go p w g)
def kidW (M : Mach) (r s : Nat) (p : Nat) (ws : List Int) (k : Nat) : List Mach := ws.flatMap fun w => kidA M r s p w k
def kidP (M : Mach) (r s : Nat) (ws : List Int) (k n : Nat) : List Mach := (List.range n).flatMap fun p => kidW M r s p ws k
theorem kidA_succ {M : Mach} {r s p : Nat} {w : Int} {k : Nat} : kidA M r s p w (k + 1) = kidA M r s p w k ++ [setE M r s (.go p w k)] := by
  unfold kidA
  rw [List.range_succ, List.map_append]; rfl
theorem kidW_snoc {M : Mach} {r s p : Nat} {ws : List Int} {w : Int} {k : Nat} : kidW M r s p (ws ++ [w]) k = kidW M r s p ws k ++ kidA M r s p w k := by
  unfold kidW
  rw [List.flatMap_append, List.flatMap_singleton]
theorem kidP_succ {M : Mach} {r s : Nat} {ws : List Int} {k n : Nat} : kidP M r s ws k (n + 1) = kidP M r s ws k n ++ kidW M r s n ws k := by
  unfold kidP
  rw [List.range_succ, List.flatMap_append, List.flatMap_singleton]
theorem kids_eq {M : Mach} {R S r s : Nat} : kids M R S r s = kidP M r s (waysE M) (min (R : Int) (nmd eGo M + 1)).toNat (min (S : Int) (nmd ePut M + 1)).toNat := rfl
theorem nmd_pos {f : Ent → Int} {M : Mach} : 1 ≤ nmd f M := by
  have := (foldl_max ((fullE M).map f) 0).2 0 (List.mem_cons_self ..)
  unfold nmd; omega
/-- so many machines made, one beside the other -/
structure Mrs (F H G : Hp) (D : Addr) (xs : List MR) (Ms : List Mach) : Prop where
  ow : Ow H F G D (.lst (xs.map fun x => V.ref x.m))
  ok : ∀ x ∈ xs, MROk F x
  fc : FC F H (xs.flatMap MR.cells)
  eq : xs.map (·.M) = Ms
theorem Mrs.gr0 {F H G F' G' : Hp} {D : Addr} {xs : List MR} {Ms : List Mach} (h : Mrs F H G D xs Ms) (g : Gr mu0 F G F' G') : Mrs F' H G' D xs Ms :=
  ⟨h.ow.call g (fun z => z), fun x m => (h.ok x m).up g.ff, h.fc.up g.ff, h.eq⟩
/-- one more: made, then appended -/
theorem Mrs.add {mu : Addr → Prop} {F0 F H G G' : Hp} {D u : Addr} {rs : List Addr} {ess : List (List V)} {M : Mach} {xs : List MR} {Ms : List Mach} (h : Mrs F H G D xs Ms) (g : Gr mu F0 H F G) (sF : Same F G) (g' : Gr mu0 F G F G') (x : MaO G F G' u rs ess M) :
    ∃ F2, Gr mu F0 H F2 (upd G' D (.lst (xs.map (fun x => V.ref x.m) ++ [.ref u]))) ∧ Mrs F2 H (upd G' D (.lst (xs.map (fun x => V.ref x.m) ++ [.ref u]))) D (xs ++ [⟨u, rs, ess, M⟩]) (Ms ++ [M]) ∧ Same F F2 := by
  obtain ⟨F2, g2, s2, mr, fc⟩ := x.mr g'
  have w := h.ow.call g2 (fun z => z)
  have gg := (g.trans (g2.of0 (mu := mu))).set (o := .lst (xs.map (fun x => V.ref x.m) ++ [.ref u])) w.f (.inl w.n)
  refine ⟨F2, gg, ⟨?_, fun y m => ?_, ?_, ?_⟩, s2⟩
  · rw [List.map_append]; exact w.set
  · rcases List.mem_append.mp m with m | m
    · exact (h.ok y m).up s2
    · rw [List.mem_singleton.mp m]; exact mr
  · rw [List.flatMap_append, List.flatMap_singleton]
    exact h.fc.app sF s2 g.th fc
  · rw [List.map_append, h.eq]; rfl
def sp_children : Sp := fun vs H Q _ => ∃ (F : Hp) (m : V) (M : Mach) (R S r s : Nat), vs = [m, .int r, .int s] ∧ Same F H ∧ Is F m M ∧ MOk M R S ∧ r < R ∧ s < S ∧
  ∀ (F' H' : Hp) (u : Addr) (xs : List MR), Gr mu0 F H F' H' → F' u = some (.lst (xs.map fun x => V.ref x.m)) → xs.map (·.M) = kids M R S r s → (∀ x ∈ xs, MROk F' x) → FC F' H (xs.flatMap MR.cells) → xs.length ≤ 32 → Q (.ref u) H'
theorem ok_children (t : Tx K mg) : FnOk P w K mg base CX0 3 t.a_children t.fd_children ["machine", "row", "sign"] sp_children := by
  refine t.F_children.ok sc_children (fun vs H Q E h => ?_) (fun cdv A outer s H vs Q E hr h => ?_)
  · obtain ⟨F, m, M, R, S, r, sg, rfl, _⟩ := h
    rfl
  · obtain ⟨F, m, M, R, S, r, sg, rfl, sF, hm, hM, hr', hs', q⟩ := h
    refine ⟨_, (pss_cons (ps_set (i := 3) sc_children.nd rfl (by first | exact Or.inl rfl | exact Or.inr rfl) (pe_lst (pa_cons (pe_un un_neg pe_int) (pa_cons pe_int pa_nil))))
      (pss_cons (ps_join (ps_if (pt_cmpR (op_eqD hr.units) (pe_call (ok_all_entries t) (hr.mono (by decide)) (by rfl) t.m_all_entries t.F_all_entries.kp t.b_all_entries .nil pass0 (pa_cons (pv 0) pa_nil)) (pe_lst pa_nil) (nomark _)) (pss_one (ps_set (i := 3) sc_children.nd rfl (by first | exact Or.inl rfl | exact Or.inr rfl) (pe_lst (pa_cons pe_int pa_nil)))) pss_nil))
      (pss_cons (ps_set (i := 4) sc_children.nd rfl (by first | exact Or.inl rfl | exact Or.inr rfl) (pe_lst pa_nil))
      (pss_cons (ps_for PassesOwn.never rfl (pi_range1 (by rfl) t.n_range (pa_cons (pe_callB (id := "min") (call_min2 rfl) (by rfl) t.n_min (by decide +kernel) (pa_cons (pe_callB (id := "len") call_lenQ (by rfl) t.n_len (by decide +kernel) (pa_cons (pe_ix ix_list (pv 0) pe_int (fun _ _ => rfl)) pa_nil)) (pa_cons (pe_op op_add (pe_call (ok_named_signs t) (hr.mono (by decide)) (by rfl) t.m_named_signs t.F_named_signs.kp t.b_named_signs .nil pass0 (pa_cons (pv 0) pa_nil)) pe_int) pa_nil))) pa_nil)) (pg_name (i := 5) sc_children.nd rfl (by first | exact Or.inl rfl | exact Or.inr rfl)) (pss_one (ps_for PassesOwn.never rfl (pi_list (pv 3)) (pg_name (i := 6) sc_children.nd rfl (by first | exact Or.inl rfl | exact Or.inr rfl)) (pss_one (ps_for PassesOwn.never rfl (pi_range1 (by rfl) t.n_range (pa_cons (pe_callB (id := "min") (call_min2 rfl) (by rfl) t.n_min (by decide +kernel) (pa_cons (pe_callB (id := "len") call_lenQ (by rfl) t.n_len (by decide +kernel) (pa_cons (pv 0) pa_nil)) (pa_cons (pe_op op_add (pe_call (ok_named_rows t) (hr.mono (by decide)) (by rfl) t.m_named_rows t.F_named_rows.kp t.b_named_rows .nil pass0 (pa_cons (pv 0) pa_nil)) pe_int) pa_nil))) pa_nil)) (pg_name (i := 7) sc_children.nd rfl (by first | exact Or.inl rfl | exact Or.inr rfl)) (pss_one (ps_expr (pe_bm PySem.F.plainAttrs_list PySem.F.slot_list_append PySem.F.type_list_append mt_append (pv 4) (pa_cons (pe_call (ok_with_entry t) (hr.mono (by decide)) (by rfl) t.m_with_entry t.F_with_entry.kp t.b_with_entry .nil pass0 (pa_cons (pv 0) (pa_cons (pv 1) (pa_cons (pv 2) (pa_cons (pe_tup (pa_cons (pv 5) (pa_cons (pv 6) (pa_cons (pv 7) pa_nil)))) pa_nil))))) pa_nil)))))))))
      (pss_one (ps_ret (pv 4))))))), ?_⟩
    have g0 : Gr mu0 F H F H := Gr.refl sF
    obtain ⟨am, rws, rfl, ham, hrs⟩ := id hm
    have r1 := hM.r1
    have r4 := hM.r4
    have s2 := hM.s2
    have s4 := hM.s4
    have lM : M.length = R := hM.len
    have lrs : rws.length = R := hrs.1.trans hM.len
    have l4 : M.length ≤ 4 := by omega
    have lr4 : ∀ row ∈ M, row.length ≤ 4 := fun row m => by have := hM.row row m; omega
    have i00 : 0 < rws.length := by omega
    obtain ⟨row00, hM00, a00, es00, er00, ha00, hes00⟩ := hrs.get' (List.getElem?_eq_getElem i00)
    have ls00 : es00.length = S := hes00.1.trans (hM.row _ (List.mem_of_getElem? hM00))
    have hx00 : rws[0]? = some (.ref a00) := (List.getElem?_eq_getElem i00).trans (congrArg some er00)
    obtain ⟨nP, enP, lP⟩ : ∃ nP : Nat, (nP : Int) = min (S : Int) (nmd ePut M + 1) ∧ nP ≤ 4 := by
      have := nmd_pos (f := ePut) (M := M)
      exact ⟨(min (S : Int) (nmd ePut M + 1)).toNat, by omega, by omega⟩
    obtain ⟨nG, enG, lG⟩ : ∃ nG : Nat, (nG : Int) = min (R : Int) (nmd eGo M + 1) ∧ nG ≤ 4 := by
      have := nmd_pos (f := eGo) (M := M)
      exact ⟨(min (R : Int) (nmd eGo M + 1)).toNat, by omega, by omega⟩
    have ek : kids M R S r sg = kidP M r sg (waysE M) nG nP := by rw [kids_eq, ← enP, ← enG, Int.toNat_natCast, Int.toNat_natCast]
    have lw : (waysE M).length ≤ 2 := by unfold waysE; split <;> decide
    -- ways
    refine ⟨_, rfl, two_le, fun w0 nw0 => ?_⟩
    obtain ⟨F1, g1, hw0, s1, _⟩ := g0.newE (o := .lst [.int (-1), .int 1]) nw0
    generalize upd H w0 (.lst [.int (-1), .int 1]) = H1 at g1 ⊢
    refine ⟨fun σ' H' => ∃ (F2 : Hp) (wa : Addr), σ' = [some (.ref am), some (.int r), some (.int sg), some (.ref wa), none, none, none, none] ∧ Gr mu0 F H F2 H' ∧ F2 wa = some (.lst ((waysE M).map V.int)), ?_, ?_⟩
    · refine ⟨_, rfl, F1, .ref am, M, rfl, g1.fh, hm.up g1.ff, l4, lr4, fun F2 H2 u g2 iu => ⟨nil_le, fun e ne => ?_⟩⟩
      have gg := g1.trans g2
      have ge := gg.own (o := .lst []) ne
      refine eq_dat (a := fullE M) (b := ([] : List Ent)) (iu.up ge.fh) ⟨e, [], rfl, upd_same, All2.nil⟩ ⟨_, rfl, ?_⟩
      generalize upd H2 e (.lst []) = H3 at ge ⊢
      by_cases c : fullE M = []
      · refine ifT (decide_eq_true c) ⟨one_le, fun w1 nw1 => ?_⟩
        obtain ⟨F3, g3, hw1, s3, _⟩ := ge.newE (o := .lst [.int 1]) nw1
        exact ⟨F3, w1, rfl, g3, by unfold waysE; rw [if_pos c]; exact hw1⟩
      · refine ifF (decide_eq_false c) ⟨F2, w0, rfl, ge, ?_⟩
        unfold waysE; rw [if_neg c]; exact g2.ff _ _ hw0
    rintro σ' H2 ⟨F2, wa, rfl, g2, hwa⟩
    clear g1 hw0 s1 nw0
    refine ⟨nil_le, fun D nD => ?_⟩
    have gD := g2.own (o := .lst []) nD
    have mD : Mrs F2 H (upd H2 D (.lst [])) D [] [] := ⟨Ow.mk1 g2 nD, fun x m => absurd m List.not_mem_nil, FC.nil, rfl⟩
    generalize upd H2 D (.lst []) = H3 at gD mD ⊢
    refine ⟨_, rfl, am, rws, _, _, rfl, rfl, SqL.of (gD.fh _ _ (gD.ff _ _ ham)), atI_nat (j := 0) hx00, a00, es00, rfl, .inl (SqL.of (gD.fh _ _ (gD.ff _ _ ha00))), ?_⟩
    refine ⟨_, rfl, F2, .ref am, M, rfl, gD.fh, hm.up gD.ff, l4, lr4, fun F4 H4 g4 => ⟨_, _, rfl, rfl, _, _, rfl, ?_⟩⟩
    have mD := mD.gr0 g4
    have gD := gD.trans g4
    have hwa := g4.ff _ _ hwa
    have np := nmd_pos (f := ePut) (M := M)
    have eP : (if nmd ePut M + 1 < (es00.length : Int) then nmd ePut M + 1 else (es00.length : Int)) = (nP : Int) := by rw [ls00, enP]; split <;> omega
    refine ⟨nP, by show [V.int (if nmd ePut M + 1 < (es00.length : Int) then nmd ePut M + 1 else (es00.length : Int))] = [V.int (nP : Int)]; rw [eP], by omega, by omega, for_range (lo := 0) (n := nP) (fun i σ G => ∃ (F5 : Hp) (xs : List MR) (v5 v6 v7 : Option V), σ = [some (.ref am), some (.int r), some (.int sg), some (.ref wa), some (.ref D), v5, v6, v7] ∧ Gr mu0 F H F5 G ∧ F5 wa = some (.lst ((waysE M).map V.int)) ∧ Mrs F5 H G D xs (kidP M r sg (waysE M) nG i) ∧ xs.length ≤ 8 * i)
      ⟨F4, [], none, none, none, rfl, gD, hwa, mD, Nat.le_refl _⟩ ?_ ?_⟩
    · clear gD hwa mD g4 g2
      rintro i σ G hi ⟨F5, xs, v5, v6, v7, rfl, g, hwa, md, lx⟩
      refine ⟨_, rfl, wa, rfl, ⟨_, SqL.of (g.fh _ _ hwa)⟩, for_list (K := K) (a := wa) (xs := (waysE M).map V.int) (fun j σ G => ∃ (F5 : Hp) (xs : List MR) (v6 v7 : Option V), σ = [some (.ref am), some (.int r), some (.int sg), some (.ref wa), some (.ref D), some (.int (0 + (i : Int))), v6, v7] ∧ Gr mu0 F H F5 G ∧ F5 wa = some (.lst ((waysE M).map V.int)) ∧ Mrs F5 H G D xs (kidP M r sg (waysE M) nG i ++ kidW M r sg i ((waysE M).take j) nG) ∧ xs.length ≤ 8 * i + 4 * j)
        ⟨F5, xs, _, _, rfl, g, hwa, by rw [List.take_zero]; show Mrs _ _ _ _ _ (_ ++ []); rw [List.append_nil]; exact md, lx⟩ (fun j σ G _ ⟨_, _, _, _, _, g, hw, _⟩ => SqL.of (g.fh _ _ hw)) ?_ ?_⟩
      · clear g hwa md lx
        rintro j y σ G hj ⟨F5, xs, v6, v7, rfl, g, hwa, md, lx⟩
        rw [List.getElem?_map] at hj
        obtain ⟨w, hw, rfl⟩ := Option.map_eq_some_iff.mp hj
        have jl := (List.getElem?_eq_some_iff.mp hw).1
        refine ⟨_, rfl, am, rws, rfl, .inl (SqL.of (g.fh _ _ (g.ff _ _ ham))), ?_⟩
        refine ⟨_, rfl, F5, .ref am, M, rfl, g.fh, hm.up g.ff, l4, lr4, fun F6 H6 g6 => ⟨_, _, rfl, rfl, _, _, rfl, ?_⟩⟩
        have md := md.gr0 g6
        have g := g.trans g6
        have hwa := g6.ff _ _ hwa
        have ng := nmd_pos (f := eGo) (M := M)
        have eG : (if nmd eGo M + 1 < (rws.length : Int) then nmd eGo M + 1 else (rws.length : Int)) = (nG : Int) := by rw [lrs, enG]; split <;> omega
        refine ⟨nG, by show [V.int (if nmd eGo M + 1 < (rws.length : Int) then nmd eGo M + 1 else (rws.length : Int))] = [V.int (nG : Int)]; rw [eG], by omega, by omega, for_range (lo := 0) (n := nG) (fun k σ G => ∃ (F5 : Hp) (xs : List MR) (v7 : Option V), σ = [some (.ref am), some (.int r), some (.int sg), some (.ref wa), some (.ref D), some (.int (0 + (i : Int))), some (.int w), v7] ∧ Gr mu0 F H F5 G ∧ F5 wa = some (.lst ((waysE M).map V.int)) ∧ Mrs F5 H G D xs (kidP M r sg (waysE M) nG i ++ kidW M r sg i ((waysE M).take j) nG ++ kidA M r sg i w k) ∧ xs.length ≤ 8 * i + 4 * j + k)
          ⟨F6, xs, _, rfl, g, hwa, by show Mrs _ _ _ _ _ (_ ++ []); rw [List.append_nil]; exact md, lx⟩ ?_ ?_⟩
        · clear g hwa md lx g6
          rintro k σ G hk ⟨F5, xs, v7, rfl, g, hwa, md, lx⟩
          have e0 : (0 : Int) + (i : Int) = ((i : Nat) : Int) := by omega
          have e1 : (0 : Int) + (k : Int) = ((k : Nat) : Int) := by omega
          rw [e0, e1]
          refine ⟨_, rfl, .inl ⟨rfl, _, SqL.of md.ow.h⟩, _, rfl, _, rfl, _, rfl, _, rfl, _, rfl, _, rfl, three_le, fun T nT => ?_⟩
          obtain ⟨F6, g6, hT, s6, c6⟩ := (Gr.refl (mu := mu0) g.fh).newE (o := .tup [.int (i : Int), .int w, .int (k : Int)]) nT
          have md := md.gr0 g6
          have g := g.trans g6
          generalize upd G T (.tup [.int (i : Int), .int w, .int (k : Int)]) = G6 at g md ⊢
          refine ⟨F6, .ref am, .ref T, M, R, S, r, sg, .go i w k, rfl, g.fh, hm.up g.ff, hM, ⟨T, rfl, hT⟩, hr', hs', fun G7 u rs ess g7 x7 => ?_⟩
          have hwa6 := g6.ff _ _ hwa
          obtain ⟨F8, g8, md8, s8⟩ := md.add g g.fh g7 x7
          refine ⟨D, _, _, rfl, rfl, (md.ow.call g7 (fun z => z)).h, by rw [List.length_map]; exact lt_size (by omega), ?_⟩
          refine ⟨F8, xs ++ [⟨u, rs, ess, setE M r sg (.go i w k)⟩], _, rfl, g8, s8 _ _ hwa6, ?_, by rw [List.length_append]; exact Nat.succ_le_succ lx⟩
          rw [kidA_succ, ← List.append_assoc]
          exact md8
        · rintro σ G ⟨F5, xs, v7, rfl, g, hwa, md, lx⟩
          refine ⟨F5, xs, _, _, rfl, g, hwa, ?_, by omega⟩
          rw [List.take_add_one, hw, Option.toList_some, kidW_snoc, ← List.append_assoc]
          exact md
      · rintro σ G ⟨F5, xs, v6, v7, rfl, g, hwa, md, lx⟩
        rw [List.length_map] at lx md
        rw [List.take_length] at md
        exact ⟨F5, xs, _, _, _, rfl, g, hwa, by rw [kidP_succ]; exact md, by omega⟩
    · rintro σ G ⟨F5, xs, v5, v6, v7, rfl, g, hwa, md, lx⟩
      have gf := g.frz md.ow.h md.ow.n md.ow.f
      have sf : Same F5 (upd F5 D (.lst (xs.map fun x => V.ref x.m))) := sm_up md.ow.f
      exact ⟨_, rfl, q _ G D xs gf upd_same (by rw [md.eq, ek]) (fun x m => (md.ok x m).up sf) (md.fc.up sf) (by omega)⟩
/-! ### a paper that is told, its lists -/
def PC (F : Hp) (P : Addr) (p : Pap6) (pc : List (Addr × List V)) : Prop := match p with
  | .shut w _ _ _ => ∃ (a b c : Addr) (xs ys zs : List V), F P = some (.tup [.str tShut.x, .int w, .ref a, .ref b, .ref c]) ∧ pc = [(a, xs), (b, ys), (c, zs)]
  | _ => pc = []
theorem PC.up {F F' : Hp} {P : Addr} {p : Pap6} {pc : List (Addr × List V)} (h : PC F P p pc) (s : Same F F') : PC F' P p pc := by
  cases p with
  | shut w A B C => obtain ⟨a, b, c, xs, ys, zs, e, e2⟩ := h; exact ⟨a, b, c, xs, ys, zs, s _ _ e, e2⟩
  | _ => exact h
theorem sortedA_sp {F H : Hp} {m : V} {M : Mach} {R S : Nat} {Q : VK} {E : XK} (sF : Same F H) (hm : Is F m M) (hM : MOk M R S) (q : ∀ (p : Pap6) (pc : List (Addr × List V)) (F' H' : Hp) (T : Addr), SrtA M R S p → Gr mu0 F H F' H' → Pap6At F' T p → PC F' T p pc → FC F' H pc → Q (.ref T) H') : sp_sorted [m] H Q E := by
  refine ⟨F, m, M, R, S, rfl, sF, hm, hM, fun p h F' H' T g hT => q p [] F' H' T (.inl h) g hT ?_ FC.nil, fun k s h F' H' T g sh => ?_⟩
  · cases p with
    | shut w A B C => exact h.elim
    | _ => exact rfl
  · obtain ⟨a, b, c, xs, ys, zs, hT, wa, wb, wc, ab, ac, bc, ia, ib, ic⟩ := sh
    have g1 := g.frz wa.h wa.n wa.f
    have wb1 := wb.frzn (u := .lst xs) ab.symm
    have wc1 := wc.frzn (u := .lst xs) ac.symm
    have g2 := g1.frz wb1.h wb1.n wb1.f
    have wc2 := wc1.frzn (u := .lst ys) bc.symm
    have g3 := g2.frz wc2.h wc2.n wc2.f
    have s1 : Same F' (upd F' a (.lst xs)) := sm_up wa.f
    have s2 : Same (upd F' a (.lst xs)) (upd (upd F' a (.lst xs)) b (.lst ys)) := sm_up wb1.f
    have s3 : Same (upd (upd F' a (.lst xs)) b (.lst ys)) (upd (upd (upd F' a (.lst xs)) b (.lst ys)) c (.lst zs)) := sm_up wc2.f
    have ss : Same F' (upd (upd (upd F' a (.lst xs)) b (.lst ys)) c (.lst zs)) := fun x o e => s3 _ _ (s2 _ _ (s1 _ _ e))
    have ha : (upd (upd (upd F' a (.lst xs)) b (.lst ys)) c (.lst zs)) a = some (.lst xs) := s3 _ _ (s2 _ _ upd_same)
    have hb : (upd (upd (upd F' a (.lst xs)) b (.lst ys)) c (.lst zs)) b = some (.lst ys) := s3 _ _ upd_same
    have hc : (upd (upd (upd F' a (.lst xs)) b (.lst ys)) c (.lst zs)) c = some (.lst zs) := upd_same
    refine q (.shut k (sortD s.A) (sortD s.B) (sortD s.C)) [(a, xs), (b, ys), (c, zs)] _ H' T (.inr ⟨k, s, h, rfl⟩) g3 ⟨a, b, c, xs, ys, zs, ss _ _ hT, ha, hb, hc, ia.up ss, ib.up ss, ic.up ss⟩ ⟨a, b, c, xs, ys, zs, ss _ _ hT, rfl⟩ ⟨?_, fun x m => ?_⟩
    · show [a, b, c].Nodup
      simp [ab, ac, bc]
    · simp only [List.mem_cons, List.not_mem_nil, or_false] at m
      rcases m with rfl | rfl | rfl
      · exact ⟨wa.n, ha⟩
      · exact ⟨wb.n, hb⟩
      · exact ⟨wc.n, hc⟩
theorem kd_ends {q : Pap6} : (V.str q.kd.x = V.str "ends") ↔ ∃ n, q = .ends n := by
  constructor
  · intro h
    have h := V.str.inj h
    cases q with
    | ends n => exact ⟨n, rfl⟩
    | ring f l => exact absurd (show tRing.x = "ends" from h) (by decide +kernel)
    | drift f l => exact absurd (show tDrift.x = "ends" from h) (by decide +kernel)
    | back d => exact absurd (show tBack.x = "ends" from h) (by decide +kernel)
    | shut w A B C => exact absurd (show tShut.x = "ends" from h) (by decide +kernel)
    | opn => exact absurd (show tOpen.x = "ends" from h) (by decide +kernel)
  · rintro ⟨n, rfl⟩
    rfl
/-! ### nodes -/
structure NR where
  mr : MR
  T : Addr
  P : Addr
  p : Pap6
  pc : List (Addr × List V)
def NR.cells (x : NR) : List (Addr × List V) := x.mr.cells ++ x.pc
structure NROk (F : Hp) (R S : Nat) (x : NR) : Prop where
  mr : MROk F x.mr
  ok : MOk x.mr.M R S
  tup : F x.T = some (.tup [.ref x.mr.m, .ref x.P])
  pap : Pap6At F x.P x.p
  srt : SrtA x.mr.M R S x.p
  pc : PC F x.P x.p x.pc
  met : metM x.mr.M = none → ¬ SrtA x.mr.M R S .opn
theorem NROk.up {F F' : Hp} {R S : Nat} {x : NR} (h : NROk F R S x) (s : Same F F') : NROk F' R S x := ⟨h.mr.up s, h.ok, s _ _ h.tup, h.pap.up s, h.srt, h.pc.up s, h.met⟩
/-- where a machine that is sorted ends, and where not -/
theorem met_ends {M : Mach} {R S : Nat} {p : Pap6} {k : Nat} {c : Cfg} (hM : MOk M R S) (h : SrtA M R S p) (go : Gone M 200 k c) : ((∃ n, p = .ends n) ↔ entOf M c = .emp) ∧ (entOf M c = .emp → p = .ends k) := by
  have g := h.good hM
  have key : entOf M c = .emp → p = .ends k := fun e => by
    have en : Ends M k := (ends_iff go go.le).mpr ⟨e, rfl⟩
    by_cases z : ∃ n, p = .ends n
    · obtain ⟨n, rfl⟩ := z
      rw [Ends.uniq (g.e n rfl).1 en]
    · exact absurd en (g.ne (fun n hn => z ⟨n, hn⟩) k go.le)
  refine ⟨⟨fun ⟨n, hn⟩ => ?_, fun e => ⟨k, key e⟩⟩, key⟩
  obtain ⟨en, l⟩ := g.e n hn
  exact ((ends_iff go l).mp en).1
theorem tits_last {R S i : Nat} {M : Mach} (h : (tits R S i).1.getLast? = some M) : tits R S (i + 1) = (grow R S (tits R S i).1 M, (tits R S i).2 ++ [M]) := by
  show (match (tits R S i).1.getLast? with | none => tits R S i | some M => (grow R S (tits R S i).1 M, (tits R S i).2 ++ [M])) = _
  rw [h]
theorem last_map {α β : Type} {f : α → β} {xs : List α} {y : β} (h : (xs.map f).getLast? = some y) : ∃ x, xs = xs.dropLast ++ [x] ∧ f x = y := by
  rw [List.getLast?_map] at h
  obtain ⟨x, hx, e⟩ := Option.map_eq_some_iff.mp h
  refine ⟨x, ?_, e⟩
  obtain ⟨ys, rfl⟩ := List.getLast?_eq_some_iff.mp hx
  rw [List.dropLast_concat]
def sp_tree : Sp := fun vs H Q _ => ∃ (F : Hp) (R S N : Nat), vs = [.int R, .int S] ∧ Same F H ∧ R * S ≤ 4 ∧ 1 ≤ R ∧ R ≤ 4 ∧ 2 ≤ S ∧ S ≤ 4 ∧ N ≤ 1000 ∧ TreeOk R S N ∧
  ∀ (F' H' : Hp) (L : Addr) (xs : List NR), Gr mu0 F H F' H' → F' L = some (.lst (xs.map fun x => V.ref x.T)) → xs.map (fun x => x.mr.M) = (tits R S N).2 → (∀ x ∈ xs, NROk F' R S x) → FC F' H (xs.flatMap NR.cells) → (∀ q ∈ xs.flatMap NR.cells, q.1 ≠ L) → Q (.ref L) H'
theorem ok_tree (t : Tx K mg) : FnOk P w K mg base CX0 8 t.a_tree t.fd_tree ["rows", "signs"] sp_tree := by
  refine t.F_tree.ok sc_tree (fun vs H Q E h => ?_) (fun cdv A outer s H vs Q E hr h => ?_)
  · obtain ⟨F, R, S, N, rfl, _⟩ := h
    rfl
  · obtain ⟨F, R, S, N, rfl, sF, RS, R1, R4, S2, S4, N1, tok, q⟩ := h
    refine ⟨_, (pss_cons (ps_expr (pe_call (ok_must_size t) (hr.mono (by decide)) (by rfl) t.m_must_size t.F_must_size.kp t.b_must_size .nil pass0 (pa_cons (pv 0) (pa_cons (pv 1) pa_nil))))
      (pss_cons (ps_set (i := 2) sc_tree.nd rfl (by first | exact Or.inl rfl | exact Or.inr rfl) (pe_lst (pa_cons (pe_call (ok_empty_machine t) (hr.mono (by decide)) (by rfl) t.m_empty_machine t.F_empty_machine.kp t.b_empty_machine .nil pass0 (pa_cons (pv 0) (pa_cons (pv 1) pa_nil))) pa_nil)))
      (pss_cons (ps_set (i := 3) sc_tree.nd rfl (by first | exact Or.inl rfl | exact Or.inr rfl) (pe_lst pa_nil))
      (pss_cons (ps_while PassesOwn.never (pt_cmpR (op_neD hr.units) (pv 2) (pe_lst pa_nil) (nomark _)) (pss_cons (ps_set (i := 4) sc_tree.nd rfl (by first | exact Or.inl rfl | exact Or.inr rfl) (pe_bm0 PySem.F.plainAttrs_list PySem.F.slot_list_pop PySem.F.type_list_pop mt_pop (pv 2)))
      (pss_cons (ps_set (i := 5) sc_tree.nd rfl (by first | exact Or.inl rfl | exact Or.inr rfl) (pe_call (ok_sorted_as t) (hr.mono (by decide)) (by rfl) t.m_sorted_as t.F_sorted_as.kp t.b_sorted_as .nil pass0 (pa_cons (pv 4) pa_nil)))
      (pss_cons (ps_expr (pe_bm PySem.F.plainAttrs_list PySem.F.slot_list_append PySem.F.type_list_append mt_append (pv 3) (pa_cons (pe_tup (pa_cons (pv 4) (pa_cons (pv 5) pa_nil))) pa_nil)))
      (pss_one (ps_if (pt_cmpR op_eq (pe_ix ix_tup (pv 5) pe_int (fun _ _ => rfl)) pe_str (nomark _)) (pss_cons (ps_asg (pe_call (ok_met_at t) (hr.mono (by decide)) (by rfl) t.m_met_at t.F_met_at.kp t.b_met_at .nil pass0 (pa_cons (pv 4) pa_nil)) (pg_tup rfl (pgs_cons (pg_name (i := 6) sc_tree.nd rfl (by first | exact Or.inl rfl | exact Or.inr rfl)) (pgs_cons (pg_name (i := 7) sc_tree.nd rfl (by first | exact Or.inl rfl | exact Or.inr rfl)) pgs_nil))))
      (pss_one (ps_set (i := 2) sc_tree.nd rfl (by first | exact Or.inl rfl | exact Or.inr rfl) (pe_op op_cat (pv 2) (pe_revL (pe_call (ok_children t) (hr.mono (by decide)) (by rfl) t.m_children t.F_children.kp t.b_children .nil pass0 (pa_cons (pv 4) (pa_cons (pv 6) (pa_cons (pv 7) pa_nil))))))))) pss_nil))))))
      (pss_one (ps_ret (pv 3))))))), ?_⟩
    have g0 : Gr mu0 F H F H := Gr.refl sF
    refine ⟨_, rfl, _, rfl, R, S, rfl, R1, R4, S2, S4, RS, ?_⟩
    refine ⟨_, rfl, _, rfl, F, R, S, rfl, sF, R4, S4, fun F1 H1 m rs ess g1 x1 => ?_⟩
    obtain ⟨F2, g2, _, mr2, fc2⟩ := x1.mr g1
    refine ⟨one_le, fun W nW => ?_⟩
    have g3 := g2.own (o := .lst [.ref m]) nW
    have wW : Ow H F2 (upd H1 W (.lst [.ref m])) W (.lst [.ref m]) := Ow.mk1 g2 nW
    generalize upd H1 W (.lst [.ref m]) = H3 at g3 wW ⊢
    refine ⟨nil_le, fun D nD => ?_⟩
    have wD : Ow H F2 (upd H3 D (.lst [])) D (.lst []) := Ow.mk1 g3 nD
    have WD : W ≠ D := ne_of_none wW.h nD
    have wW := wW.own (u := .lst []) nD
    have g4 := g3.own (o := .lst []) nD
    generalize upd H3 D (.lst []) = H4 at g4 wW wD ⊢
    refine ⟨fun k σ G => ∃ (i : Nat) (F1 : Hp) (W : Addr) (ws : List MR) (xs : List NR) (v4 v5 v6 v7 : Option V), k = N - i ∧ σ = [some (.int R), some (.int S), some (.ref W), some (.ref D), v4, v5, v6, v7] ∧ i ≤ N ∧ Gr mu0 F H F1 G ∧ Ow H F1 G W (.lst (ws.map fun x => V.ref x.m)) ∧ Ow H F1 G D (.lst (xs.map fun x => V.ref x.T)) ∧ W ≠ D ∧
        ws.map (·.M) = (tits R S i).1 ∧ xs.map (fun x => x.mr.M) = (tits R S i).2 ∧ (∀ x ∈ ws, MROk F1 x) ∧ (∀ x ∈ xs, NROk F1 R S x) ∧ FC F1 H (ws.flatMap MR.cells ++ xs.flatMap NR.cells),
      ⟨_, 0, F2, W, [⟨m, rs, ess, empM R S⟩], [], none, none, none, none, rfl, rfl, Nat.zero_le _, g4, wW, wD, WD, rfl, rfl, fun x hx => by rw [List.mem_singleton.mp hx]; exact mr2, fun x hx => absurd hx List.not_mem_nil, by rw [List.flatMap_singleton, List.flatMap_nil, List.append_nil]; exact fc2⟩, ?_⟩
    clear wW wD WD g4 g3 g2 g1 mr2 fc2 x1 nW nD
    rintro k σ G ⟨i, F1, W, ws, xs, v4, v5, v6, v7, rfl, rfl, iN, g, wW, wD, WD, ew, ex, okw, okx, fc⟩
    have lxs : xs.length = i := by
      have : ∀ n, n ≤ N → (tits R S n).2.length = n := fun n => by
        induction n with
        | zero => intro _; rfl
        | succ n ih =>
          intro hn
          obtain ⟨M, hM⟩ := tok.node n (by omega)
          rw [tits_last hM.last]
          show ((tits R S n).2 ++ [M]).length = _
          rw [List.length_append, ih (by omega)]; rfl
      rw [← this i iN, ← ex, List.length_map]
    refine ⟨_, rfl, nil_le, fun e ne => ?_⟩
    have ge := g.own (o := .lst []) ne
    have isW : Is (upd G e (.lst [])) (.ref W) (ws.map (·.M)) := ⟨W, _, rfl, ln ne wW.h, by rw [List.length_map, List.length_map], fun j v M h1 h2 => by
      rw [List.getElem?_map] at h1 h2
      obtain ⟨x, hx, rfl⟩ := Option.map_eq_some_iff.mp h1
      rw [hx] at h2
      cases h2
      exact (okw x (List.mem_of_getElem? hx)).is.up ge.fh⟩
    refine ne_dat (a := ws.map (·.M)) (b := ([] : List Mach)) isW ⟨e, [], rfl, upd_same, All2.nil⟩ ⟨_, rfl, ?_⟩
    have wW := wW.own (u := .lst []) ne
    have wD := wD.own (u := .lst []) ne
    generalize upd G e (.lst []) = G1 at ge wW wD
    clear isW ne g
    by_cases cn : ws.map (·.M) = []
    · refine ifF (by rw [decide_eq_true cn]; rfl) ⟨_, rfl, ?_⟩
      have eN : i = N := by
        by_cases c : i = N
        · exact c
        · obtain ⟨M, hM⟩ := tok.node i (by omega)
          rw [ew] at cn
          have := hM.last
          rw [cn] at this; cases this
      subst eN
      have gf := ge.frz wD.h wD.n wD.f
      have sf : Same F1 (upd F1 D (.lst (xs.map fun x => V.ref x.T))) := sm_up wD.f
      have ws0 : ws = [] := List.map_eq_nil_iff.mp cn
      subst ws0
      exact q _ G1 D xs gf upd_same ex (fun x m => (okx x m).up sf) (fc.up sf) fun q m e => by
        have z := (fc.at' q m).2
        rw [e, wD.f] at z; cases z
    · refine ifT (by rw [decide_eq_false cn]; rfl) ⟨_, fun _ _ h => h, ?_⟩
      have il : i < N := by
        by_cases c : i = N
        · subst c
          rw [ew] at cn
          exact absurd tok.fin cn
        · omega
      obtain ⟨M, hM⟩ := tok.node i il
      have hl := hM.last
      rw [← ew] at hl
      obtain ⟨x, exw, exM⟩ := last_map hl
      subst exM
      generalize ws.dropLast = w0 at exw
      subst exw
      have okx' := okw x (List.mem_append_right _ (List.mem_singleton.mpr rfl))
      have few := hM.few
      rw [← ew, List.length_map, List.length_append] at few
      have few : w0.length + 1 ≤ 1000 := few
      -- machine = waiting.pop()
      refine ⟨_, rfl, .inl ⟨rfl, _, SqL.of wW.h⟩, W, _, (V.ref x.m), rfl, rfl, wW.h, by rw [List.map_append, List.map_singleton, List.length_append, List.length_map]; show (_ ++ _)[_]? = _; rw [List.getElem?_append_right (by rw [List.length_map]; exact Nat.le_refl _)]; simp, ?_⟩
      rw [List.map_append, List.map_singleton, List.dropLast_concat]
      have wW1 := wW.set (u := .lst (w0.map fun x => V.ref x.m))
      have wD1 := wD.other (u := .lst (w0.map fun x => V.ref x.m)) WD.symm
      have g5 := ge.set (o := .lst (w0.map fun x => V.ref x.m)) wW.f (.inl wW.n)
      generalize upd G1 W (.lst (w0.map fun x => V.ref x.m)) = G5 at g5 wW1 wD1 ⊢
      clear wW wD ge
      -- paper = sorted_as(machine)
      refine ⟨_, rfl, ?_⟩
      dsimp only [tCons, tNil, tC]
      refine sortedA_sp g5.fh okx'.is hM.ok fun p pc F6 G6 P hp g6 hP hpc fc6 => ?_
      have fcA := fc.app g5.fh g6.ff g5.th fc6
      have g7 := g5.trans g6
      have wW2 := wW1.call g6 (fun z => z)
      have wD2 := wD1.call g6 (fun z => z)
      refine ⟨_, rfl, .inl ⟨rfl, _, SqL.of wD2.h⟩, _, rfl, _, rfl, two_le, fun T nT => ?_⟩
      obtain ⟨F7, g8, hT, s7, c7⟩ := g7.newE (o := .tup [.ref x.m, .ref P]) nT
      have wW3 := wW2.call c7 (fun z => z)
      have wD3 := wD2.call c7 (fun z => z)
      generalize upd G6 T (.tup [.ref x.m, .ref P]) = G7 at g8 wW3 wD3 ⊢
      refine ⟨D, _, _, rfl, rfl, wD3.h, by rw [List.length_map, lxs]; exact lt_size (by omega), ?_⟩
      have s17 : Same F1 F7 := fun c o h => s7 _ _ (g6.ff _ _ h)
      have oky : NROk F7 R S ⟨x, T, P, p, pc⟩ := ⟨okx'.up s17, hM.ok, hT, hP.up s7, hp, hpc.up s7, hM.srt⟩
      have e1 : xs.map (fun x => V.ref x.T) ++ [V.ref T] = (xs ++ [(⟨x, T, P, p, pc⟩ : NR)]).map fun x => V.ref x.T := by rw [List.map_append]; rfl
      rw [e1]
      have g9 := g8.set (o := .lst ((xs ++ [(⟨x, T, P, p, pc⟩ : NR)]).map fun x => V.ref x.T)) wD3.f (.inl wD3.n)
      have wD4 := wD3.set (u := .lst ((xs ++ [(⟨x, T, P, p, pc⟩ : NR)]).map fun x => V.ref x.T))
      have wW4 := wW3.other (u := .lst ((xs ++ [(⟨x, T, P, p, pc⟩ : NR)]).map fun x => V.ref x.T)) WD
      generalize upd G7 D (.lst ((xs ++ [(⟨x, T, P, p, pc⟩ : NR)]).map fun x => V.ref x.T)) = G8 at g9 wD4 wW4 ⊢
      have okw7 : ∀ z ∈ w0, MROk F7 z := fun z m => (okw z (List.mem_append_left _ m)).up s17
      have okx7 : ∀ z ∈ xs ++ [(⟨x, T, P, p, pc⟩ : NR)], NROk F7 R S z := fun z m => by
        rcases List.mem_append.mp m with m | m
        · exact (okx z m).up s17
        · rw [List.mem_singleton.mp m]; exact oky
      have fcB : FC F7 H (w0.flatMap MR.cells ++ (xs ++ [(⟨x, T, P, p, pc⟩ : NR)]).flatMap NR.cells) := by
        refine (fcA.up s7).perm ?_
        rw [List.flatMap_append, List.flatMap_append, List.flatMap_singleton, List.flatMap_singleton, List.append_assoc, List.append_assoc]
        exact (List.perm_append_comm_assoc _ _ _).append_left _
      have ex8 : (xs ++ [(⟨x, T, P, p, pc⟩ : NR)]).map (fun x => x.mr.M) = (tits R S (i + 1)).2 := by
        rw [tits_last hM.last, List.map_append, ex]; rfl
      have ew8 : (tits R S (i + 1)).1 = grow R S (w0.map (·.M) ++ [x.M]) x.M := by
        rw [tits_last hM.last, ← ew, List.map_append]; rfl
      clear wW1 wW2 wW3 wD1 wD2 wD3 fcA g8 g7 g5 fc
      obtain ⟨xs0, hxs0⟩ := hP.tup
      refine ⟨_, rfl, P, _, _, _, rfl, rfl, SqT.of (g9.fh _ _ (s7 _ _ hxs0)), atI_nat (j := 0) rfl, rfl, _, rfl, ?_⟩
      by_cases cE : ∃ n, p = .ends n
      · refine ifT (decide_eq_true (kd_ends.mpr cE)) ?_
        refine ⟨_, rfl, F7, .ref x.m, x.M, R, S, rfl, g9.fh, oky.mr.is, hM.ok, fun F9 G9 T9 k c g10 go hT9 => ?_⟩
        refine ⟨T9, _, rfl, SqT.of (g10.fh _ _ hT9), rfl, _, _, rfl, _, _, rfl, rfl, ?_⟩
        have e := (met_ends hM.ok hp go).1.mp cE
        have em : metM x.M = some (c.r.toNat, (gz c.l c.s).toNat) := by rw [metM_of go, if_pos e]
        obtain ⟨cok, _⟩ := stepsC_ok hM.ok go.stp
        obtain ⟨z0, z1⟩ := cok.look (by omega) c.s
        have z0 : 0 ≤ gz c.l c.s := z0
        have z1 : gz c.l c.s < S := z1
        have r0 := cok.r0
        have r1 := cok.r1
        have g11 := g9.trans g10
        have wW5 := wW4.call g10 (fun z => z)
        have wD5 := wD4.call g10 (fun z => z)
        refine ⟨_, rfl, _, rfl, _, rfl, _, rfl, F9, .ref x.m, x.M, R, S, c.r.toNat, (gz c.l c.s).toNat, (by show [V.ref x.m, V.int c.r, V.int (gz c.l c.s)] = [V.ref x.m, V.int (c.r.toNat : Int), V.int ((gz c.l c.s).toNat : Int)]; rw [Int.toNat_of_nonneg r0, Int.toNat_of_nonneg z0]), g11.fh, oky.mr.is.up g10.ff, hM.ok, by omega, by omega, fun F10 G10 u cs g12 hu ecs okc fcc l32 => ?_⟩
        have g13 := g11.trans g12
        have wW6 := wW5.call g12 (fun z => z)
        have wD6 := wD5.call g12 (fun z => z)
        refine ⟨u, _, rfl, SqL.of (g12.fh _ _ hu), fun v nv => ?_⟩
        rw [← List.map_reverse]
        have g14 := g13.own (o := .lst (cs.reverse.map fun x => V.ref x.m)) nv
        have wW7 := wW6.own (u := .lst (cs.reverse.map fun x => V.ref x.m)) nv
        have wD7 := wD6.own (u := .lst (cs.reverse.map fun x => V.ref x.m)) nv
        have hv : (upd G10 v (.lst (cs.reverse.map fun x => V.ref x.m))) v = some (.lst (cs.reverse.map fun x => V.ref x.m)) := upd_same
        generalize upd G10 v (.lst (cs.reverse.map fun x => V.ref x.m)) = G11 at g14 wW7 wD7 hv ⊢
        refine ⟨W, v, _, _, rfl, rfl, wW7.h, hv, le_size (by rw [List.length_map, List.length_map, List.length_reverse]; omega), fun Z nZ => ?_⟩
        rw [← List.map_append]
        have g15 := g14.own (o := .lst ((w0 ++ cs.reverse).map fun x => V.ref x.m)) nZ
        have wZ : Ow H F10 (upd G11 Z (.lst ((w0 ++ cs.reverse).map fun x => V.ref x.m))) Z (.lst ((w0 ++ cs.reverse).map fun x => V.ref x.m)) := Ow.mk1 g14 nZ
        have ZD : Z ≠ D := (ne_of_none wD7.h nZ).symm
        have wD8 := wD7.own (u := .lst ((w0 ++ cs.reverse).map fun x => V.ref x.m)) nZ
        have s10 : Same F7 F10 := fun c o h => g12.ff _ _ (g10.ff _ _ h)
        refine ⟨N - (i + 1), by omega, i + 1, F10, Z, w0 ++ cs.reverse, xs ++ [(⟨x, T, P, p, pc⟩ : NR)], _, _, _, _, rfl, rfl, by omega, g15, wZ, wD8, ZD, ?_, ex8, fun z m => ?_, fun z m => (okx7 z m).up s10, ?_⟩
        · rw [ew8]
          unfold grow
          rw [em, List.dropLast_concat, List.map_append, List.map_reverse, ecs]
        · rcases List.mem_append.mp m with m | m
          · exact (okw7 z m).up s10
          · exact okc z (List.mem_reverse.mp m)
        · have fcC := (fcB.up g10.ff).app g11.fh g12.ff g11.th fcc
          refine fcC.perm ?_
          generalize (xs ++ [(⟨x, T, P, p, pc⟩ : NR)]).flatMap NR.cells = Y
          rw [List.flatMap_append, List.append_assoc, List.append_assoc]
          refine List.Perm.append_left _ ?_
          exact List.perm_append_comm.trans (((List.reverse_perm cs).symm.flatMap_right _).append_right _)
      · refine ifF (decide_eq_false fun z => cE (kd_ends.mp z)) ?_
        have em : metM x.M = none := by
          have go := goN_gone (M := x.M) (m := 200) 200 0 c0 rfl rfl
          rw [metM_of go, if_neg fun z => cE ((met_ends hM.ok hp go).1.mpr z)]
        refine ⟨N - (i + 1), by omega, i + 1, F7, W, w0, xs ++ [(⟨x, T, P, p, pc⟩ : NR)], _, _, _, _, rfl, rfl, by omega, g9, wW4, wD4, WD, ?_, ex8, okw7, okx7, fcB⟩
        rw [ew8]
        unfold grow
        rw [em, List.dropLast_concat, List.append_nil]
/-! ### the law's own tree -/
def sp_L_named : Sp := fun vs H Q _ => ∃ (F : Hp) (m : V) (M : Mach) (at' : Nat) (f : Ent → Int), vs = [m, .int at'] ∧ Same F H ∧ Is F m M ∧ M.length ≤ 4 ∧ (∀ row ∈ M, row.length ≤ 4) ∧ (∀ p w r : Int, atI [V.int p, V.int w, V.int r] (at' : Int) = some (.int (f (.go p w r)))) ∧ ∀ (F' H' : Hp), Gr mu0 F H F' H' → Q (.int (nmd f M)) H'
theorem ok_L_named_things (t : Tx K mg) : FnOk P w K mg base CX0 1 t.a_L_named_things t.fd_L_named_things ["_law_machine", "_law_at"] sp_L_named := by
  refine t.F_L_named_things.ok sc_L_named_things (fun vs H Q E h => ?_) (fun cdv A outer s H vs Q E hr h => ?_)
  · obtain ⟨F, m, M, at', f, rfl, _⟩ := h
    rfl
  · obtain ⟨F, m, M, at', f, rfl, sF, hm, lM, lr, hat, q⟩ := h
    refine ⟨_, (pss_cons (ps_set (i := 2) sc_L_named_things.nd rfl (by first | exact Or.inl rfl | exact Or.inr rfl) (pe_lst (pa_cons pe_int pa_nil)))
      (pss_cons (ps_for PassesOwn.never rfl (pi_list (pv 0)) (pg_name (i := 3) sc_L_named_things.nd rfl (by first | exact Or.inl rfl | exact Or.inr rfl)) (pss_one (ps_set (i := 2) sc_L_named_things.nd rfl (by first | exact Or.inl rfl | exact Or.inr rfl) (pe_op op_cat (pv 2) (pe_lc (own := [("_law_entry", 4)]) (g := gName 4) rfl sc_L_named_things.nd (pi_list (pv 3)) (blkOk_by (N := N_L_named_things) (sc := defScope s_L_named_things) (by decide +kernel)) (fun _ _ _ _ _ => (pg_name (i := 4) sc_L_named_things.nd rfl (by first | exact Or.inl rfl | exact Or.inr rfl))) (fun _ _ _ _ _ => (pts_one (pt_cmpR (orK (K := K) (r := rNeD) rfl (op_neD hr.units)) (pv 4) (pe_tup pa_nil) (nomark _)))) (fun _ _ _ _ _ => (pe_ix (ixK (K := K) (r := rIxT) rfl ix_tup) (pv 4) (pv 1) (fun _ _ => rfl))))))))
      (pss_one (ps_ret (pe_op op_add (pe_callB (id := "max") (cr_max rfl) (by rfl) t.n_max (by decide +kernel) (pa_cons (pv 2) pa_nil)) pe_int))))), ?_⟩
    have g0 : Gr mu0 F H F H := Gr.refl sF
    obtain ⟨am, xs, rfl, ham, hxs⟩ := hm
    refine ⟨one_le, fun D nD => ?_⟩
    have gD := g0.new (o := .lst [.int 0]) nD
    have hD : (upd F D (.lst [.int 0])) D = some (.lst [.int 0]) := upd_same
    generalize upd F D (.lst [.int 0]) = F0 at gD hD
    generalize upd H D (.lst [.int 0]) = G0 at gD ⊢
    refine ⟨_, rfl, am, rfl, ⟨_, SqL.of (gD.fh _ _ (gD.ff _ _ ham))⟩, for_list (K := K) (a := am) (xs := xs) (fun i σ G => ∃ (F1 : Hp) (D : Addr) (v3 v4 : Option V), σ = [some (.ref am), some (.int at'), some (.ref D), v3, v4] ∧ Gr mu0 F H F1 G ∧ F1 D = some (.lst ((0 :: (fullE (M.take i)).map f).map V.int)))
      ⟨F0, D, none, none, rfl, gD, hD⟩ (fun i σ G _ ⟨_, _, _, _, _, g, _⟩ => SqL.of (g.fh _ _ (g.ff _ _ ham))) ?_ ?_⟩
    · rintro i x σ G hi ⟨F1, D, v3, v4, rfl, g, hD⟩
      obtain ⟨row, hMi, ra, es, rfl, hra, hes⟩ := hxs.get' hi
      have il : i < M.length := (List.getElem?_eq_some_iff.mp hMi).1
      have l4 := lr row (List.mem_of_getElem? hMi)
      have les : es.length = row.length := hes.1
      have lf : (fullE (M.take i)).length ≤ 16 := fullE_len (by rw [List.length_take]; omega) fun row m => lr row (List.mem_of_mem_take m)
      refine ⟨_, rfl, _, rfl, ra, rfl, ⟨_, SqL.of (g.fh _ _ (g.ff _ _ hra))⟩, fun Z nZ => lc_list (K := K) (a := ra) (xs := es) (fun j G2 => Gr mu0 F1 G F1 G2 ∧ Ow G F1 G2 Z (.lst (((row.take j).filter fun e : Ent => decide (e ≠ Ent.emp)).map fun e => V.int (f e))))
        ⟨(Gr.refl g.fh).own nZ, Ow.mk1 (Gr.refl (mu := mu0) g.fh) nZ⟩ (fun j G2 _ ⟨g2, _⟩ => SqL.of (g2.fh _ _ (g.ff _ _ hra))) ?_ ?_⟩
      · rintro j y G2 hj ⟨g2, wz⟩
        obtain ⟨e, he, ie⟩ := hes.get' hj
        have jl : j < es.length := (List.getElem?_eq_some_iff.mp hj).1
        have iF := ie.up g.ff
        refine ⟨rfl, _, rfl, nil_le, fun z nz => ?_⟩
        have g3 := g2.own (o := .tup []) nz
        have wz3 := wz.own (u := .tup []) nz
        have e1 : (row.take (j + 1)).filter (fun e : Ent => decide (e ≠ Ent.emp)) = (row.take j).filter (fun e : Ent => decide (e ≠ Ent.emp)) ++ if e = .emp then [] else [e] := by
          rw [List.take_add_one, he, List.filter_append]
          congr 1
          show List.filter _ [e] = _
          rw [List.filter_cons]
          by_cases c : e = .emp
          · rw [if_pos c, c]; rfl
          · rw [if_neg c, decide_eq_true c]; rfl
        refine ne_dat (a := e) (b := Ent.emp) (iF.up g3.fh) ⟨z, rfl, upd_same⟩ ?_
        generalize upd G2 z (.tup []) = G3 at g3 wz3 ⊢
        refine ⟨_, rfl, ?_⟩
        by_cases c : e = .emp
        · refine ifF (by rw [decide_eq_true c]; rfl) ⟨g3, ?_⟩
          rw [e1, if_pos c, List.append_nil]; exact wz3
        · refine ifT (by rw [decide_eq_false c]; rfl) ?_
          cases e with
          | emp => exact absurd rfl c
          | go p w r =>
            obtain ⟨T, rfl, hT⟩ := iF
            have hT : F1 T = some (.tup [.int p, .int w, .int r]) := hT
            refine ⟨_, rfl, _, rfl, T, _, _, _, rfl, rfl, SqT.of (g3.fh _ _ hT), hat p w r, _, wz3.h, ?_, g3.set wz3.f (.inl wz3.n), ?_⟩
            · have : ((row.take j).filter fun e : Ent => decide (e ≠ Ent.emp)).length ≤ (row.take j).length := List.length_filter_le ..
              rw [List.length_map]
              rw [List.length_take] at this
              exact lt_size (by omega)
            · rw [e1, if_neg c, List.map_append]; exact wz3.set
      · rintro G2 ⟨g2, wz⟩
        rw [les, List.take_length] at wz
        have lz : (row.filter fun e : Ent => decide (e ≠ Ent.emp)).length ≤ 4 := Nat.le_trans (List.length_filter_le ..) l4
        refine ⟨D, Z, _, _, rfl, rfl, g2.fh _ _ hD, wz.h, le_size (by rw [List.length_map, List.length_cons, List.length_map, List.length_map]; omega), fun N nN => ?_⟩
        have eN : (0 :: (fullE (M.take i)).map f).map V.int ++ (row.filter fun e : Ent => decide (e ≠ Ent.emp)).map (fun e => V.int (f e)) = (0 :: (fullE (M.take (i + 1))).map f).map V.int := by
          rw [fullE_snoc hMi, List.map_append, List.map_cons, List.map_cons, List.map_append, List.map_map (g := V.int) (f := f) (l := row.filter _)]
          rfl
        rw [eN]
        exact ⟨_, N, _, _, rfl, (g.trans g2).new nN, upd_same⟩
    · rintro σ G ⟨F1, D, v3, v4, rfl, g, hD⟩
      rw [hxs.1, List.take_length] at hD
      refine ⟨_, rfl, D, 0 :: (fullE M).map f, rfl, SqL.of (g.fh _ _ hD), Nat.succ_pos _, fun mx h1 h2 => ⟨_, _, rfl, rfl, ?_⟩⟩
      have em : mx = ((fullE M).map f).foldl max 0 := by
        obtain ⟨k1, k2⟩ := foldl_max ((fullE M).map f) 0
        have a1 := h2 _ k1
        have a2 := k2 _ h1
        omega
      rw [em]
      exact q F1 G g
def sp_L_met : Sp := fun vs H Q _ => ∃ (F : Hp) (m : V) (M : Mach) (R S : Nat), vs = [m, .int 200] ∧ Same F H ∧ Is F m M ∧ MOk M R S ∧
  (∀ (k : Nat) (c : Cfg), Gone M 200 k c → entOf M c ≠ .emp → ∀ H', Gr mu0 F H F H' → Q .non H') ∧
  (∀ (k : Nat) (c : Cfg), Gone M 200 k c → entOf M c = .emp → ∀ (F' H' : Hp) (T : Addr) (dv : V), Gr mu0 F H F' H' → F' T = some (.tup [.int k, .int c.r, .int (gz c.l c.s), dv]) → Q (.ref T) H')
theorem ok_L_met (t : Tx K mg) : FnOk P w K mg base CX0 1 t.a_L_met t.fd_L_met ["_law_machine", "_law_most"] sp_L_met := by
  refine t.F_L_met.ok sc_L_met (fun vs H Q E h => ?_) (fun cdv A outer s H vs Q E hr h => ?_)
  · obtain ⟨F, m, M, R, S, rfl, _⟩ := h
    rfl
  · obtain ⟨F, m, M, R, S, rfl, sF, hm, hM, qn, qs⟩ := h
    refine ⟨_, (pss_cons (ps_set (i := 2) sc_L_met.nd rfl (by first | exact Or.inl rfl | exact Or.inr rfl) pe_int)
      (pss_cons (ps_set (i := 3) sc_L_met.nd rfl (by first | exact Or.inl rfl | exact Or.inr rfl) pe_int)
      (pss_cons (ps_set (i := 4) sc_L_met.nd rfl (by first | exact Or.inl rfl | exact Or.inr rfl) pe_dnewK)
      (pss_cons (ps_for PassesOwn.never rfl (pi_range1 (by rfl) t.n_range (pa_cons (pe_op op_add (pv 1) pe_int) pa_nil)) (pg_name (i := 5) sc_L_met.nd rfl (by first | exact Or.inl rfl | exact Or.inr rfl)) (pss_cons (ps_set (i := 6) sc_L_met.nd rfl (by first | exact Or.inl rfl | exact Or.inr rfl) (pe_ix ix_list (pe_ix ix_list (pv 0) (pv 2) (fun _ _ => rfl)) (pe_dget2 (hu_of hr) (pv 4) (pv 3) pe_int ⟨by rfl, by rfl, by rfl, by rfl⟩) (fun _ _ => rfl)))
      (pss_cons (ps_if (pt_cmpR (op_eqD hr.units) (pv 6) (pe_tup pa_nil) (nomark _)) (pss_one (ps_ret (pe_tup (pa_cons (pv 5) (pa_cons (pv 2) (pa_cons (pe_dget2 (hu_of hr) (pv 4) (pv 3) pe_int ⟨by rfl, by rfl, by rfl, by rfl⟩) (pa_cons (pv 4) pa_nil))))))) pss_nil)
      (pss_cons (ps_dput (hu_of hr) (pv 4) (pv 3) (pe_ix ix_tup (pv 6) pe_int (fun _ _ => rfl)) rfl)
      (pss_cons (ps_set (i := 3) sc_L_met.nd rfl (by first | exact Or.inl rfl | exact Or.inr rfl) (pe_op op_add (pv 3) (pe_ix ix_tup (pv 6) pe_int (fun _ _ => rfl))))
      (pss_one (ps_set (i := 2) sc_L_met.nd rfl (by first | exact Or.inl rfl | exact Or.inr rfl) (pe_ix ix_tup (pv 6) pe_int (fun _ _ => rfl)))))))))
      (pss_one (ps_ret pe_non)))))), ?_⟩
    have g0 : Gr mu0 F H F H := Gr.refl sF
    obtain ⟨am, rs, rfl, ham, hrs⟩ := id hm
    refine fun d nd => ?_
    have g1 := g0.own (o := .dK []) nd
    have w1 : Ow H F (upd H d (.dK [])) d (.dK (dI [])) := Ow.mk1 g0 nd
    generalize upd H d (.dK []) = H1 at g1 w1 ⊢
    refine ⟨_, rfl, _, _, rfl, rfl, ?_⟩
    refine ⟨201, rfl, by decide, by decide, for_range (lo := 0) (n := 201) (fun i σ G => ∃ (c : Cfg) (v5 v6 : Option V), σ = [some (.ref am), some (.int 200), some (.int c.r), some (.int c.s), some (.ref d), v5, v6] ∧ Gr mu0 F H F G ∧ Ow H F G d (.dK (dI c.l)) ∧ stepsC M i = some c)
      ⟨c0, none, none, rfl, g1, w1, rfl⟩ ?_ ?_⟩
    · rintro i σ G hi ⟨c, v5, v6, rfl, g, w, st⟩
      obtain ⟨ok, ll⟩ := stepsC_ok hM st
      obtain ⟨row, e1, s0, e2, eo⟩ := ok.ent hM
      obtain ⟨am', rs', ra, es, ev, eq1, f1, x1, f2, x2, iv⟩ := mach_ent hm e1 e2
      cases eq1
      refine ⟨_, rfl, _, rfl, am, _, _, _, rfl, rfl, SqL.of (g.fh _ _ f1), at_of (Int.toNat_of_nonneg ok.r0).symm x1, ?_⟩
      refine ⟨_, rfl, d, rfl, .inl ⟨_, .inl w.h⟩, _, rfl, _, DGet.k (k := Sum.inl c.s) w.h, ?_⟩
      rw [dI_val, getD_int]
      refine ⟨ra, _, _, _, rfl, rfl, SqL.of (g.fh _ _ f2), at_of (Int.toNat_of_nonneg s0).symm x2, ?_⟩
      refine ⟨_, rfl, nil_le, fun p np => ?_⟩
      have gp := g.own (o := .tup []) np
      have wp := w.own (u := .tup []) np
      refine eq_dat (a := entOf M c) (b := Ent.emp) (iv.up gp.fh) ⟨p, rfl, upd_same⟩ ⟨_, rfl, ?_⟩
      generalize upd G p (.tup []) = G1 at gp wp ⊢
      by_cases e : entOf M c = .emp
      · refine ifT (decide_eq_true e) ?_
        refine ⟨_, rfl, _, rfl, _, rfl, d, rfl, .inl ⟨_, .inl wp.h⟩, _, rfl, _, DGet.k (k := Sum.inl c.s) wp.h, ?_⟩
        rw [dI_val, getD_int]
        refine ⟨_, rfl, le_size (by show 4 ≤ 1000000; decide), fun T nT => ?_⟩
        have e0 : (0 : Int) + (i : Int) = ((i : Nat) : Int) := by omega
        rw [e0]
        exact qs i c ⟨by omega, st, .inl (stepC_none.mpr e)⟩ e _ _ T (.ref d) (gp.new nT) upd_same
      · refine ifF (decide_eq_false e) ?_
        cases he : entOf M c with
        | emp => exact absurd he e
        | go pu wa ro =>
          rw [he] at iv
          obtain ⟨ae, rfl, hae⟩ := id iv
          have hae : F ae = some (.tup [.int pu, .int wa, .int ro]) := hae
          have st1 := stepC_go he
          refine ⟨_, rfl, ae, _, _, _, rfl, rfl, SqT.of (gp.fh _ _ hae), atI_nat (j := 0) rfl, _, rfl, _, rfl, d, _, rfl, DPut.k (k := Sum.inl c.s) wp.h (size_dI ll (by omega)), ?_⟩
          rw [dI_put]
          have g2 := gp.set (o := .dK (dI (put c.l c.s pu))) wp.f (.inl wp.n)
          have w2 := wp.set (u := .dK (dI (put c.l c.s pu)))
          generalize upd G1 d (.dK (dI (put c.l c.s pu))) = G2 at g2 w2
          refine ⟨_, rfl, _, rfl, ae, _, _, _, rfl, rfl, SqT.of (g2.fh _ _ hae), atI_nat (j := 1) rfl, _, _, rfl, rfl, _, rfl, ae, _, _, _, rfl, rfl, SqT.of (g2.fh _ _ hae), atI_nat (j := 2) rfl, ?_⟩
          exact ⟨⟨ro, c.s + wa, put c.l c.s pu⟩, _, _, rfl, g2, w2, (stepsC_next st).trans st1⟩
    · rintro σ G ⟨c, v5, v6, rfl, g, w, st⟩
      obtain ⟨b, hb, eb⟩ := stepsC_back st
      exact qn 200 b ⟨Nat.le_refl _, hb, .inr rfl⟩ (fun z => by rw [stepC_none.mpr z] at eb; cases eb) G g
/-! ### the law's own children, nodes -/
theorem sum_nn : ∀ {l : List Int}, (∀ x ∈ l, 0 ≤ x) → 0 ≤ l.sum ∧ (l.sum = 0 ↔ ∀ x ∈ l, x = 0)
  | [], _ => ⟨Int.le_refl _, fun _ x m => absurd m List.not_mem_nil, fun _ => rfl⟩
  | x :: l, h => by
    obtain ⟨h1, h2⟩ := sum_nn (l := l) fun y m => h y (List.mem_cons_of_mem _ m)
    have hx := h x (List.mem_cons_self ..)
    rw [List.sum_cons]
    refine ⟨by omega, fun e y m => ?_, fun e => ?_⟩
    · rcases List.mem_cons.mp m with rfl | m
      · omega
      · exact h2.mp (by omega) y m
    · have := e x (List.mem_cons_self ..)
      have := h2.mpr fun y m => e y (List.mem_cons_of_mem _ m)
      omega
def fullR (r : List Ent) : List Ent := r.filter fun e => decide (e ≠ .emp)
theorem full_nil {M : Mach} : fullE M = [] ↔ ∀ x ∈ M.map (fun r => ((fullR r).length : Int)), x = 0 := by
  have e : fullE M = (M.map fullR).flatten := by
    unfold fullE fullR
    rw [List.filter_flatten]
  rw [e, List.flatten_eq_nil_iff]
  constructor
  · intro h x m
    obtain ⟨r, mr, rfl⟩ := List.mem_map.mp m
    rw [h _ (List.mem_map.mpr ⟨r, mr, rfl⟩)]; rfl
  · intro h x m
    obtain ⟨r, mr, rfl⟩ := List.mem_map.mp m
    have := h _ (List.mem_map.mpr ⟨r, mr, rfl⟩)
    exact List.length_eq_zero_iff.mp (by omega)
def sp_L_children : Sp := fun vs H Q _ => ∃ (F : Hp) (m : V) (M : Mach) (R S r s : Nat), vs = [m, .int r, .int s] ∧ Same F H ∧ Is F m M ∧ MOk M R S ∧ r < R ∧ s < S ∧
  ∀ (F' H' : Hp) (u : Addr) (us : List V), Gr mu0 F H F' H' → F' u = some (.lst us) → IsAll F' us (kids M R S r s) → us.length ≤ 32 → Q (.ref u) H'
theorem ok_L_children (t : Tx K mg) : FnOk P w K mg base CX0 2 t.a_L_children t.fd_L_children ["_law_machine", "_law_row", "_law_sign"] sp_L_children := by
  refine t.F_L_children.ok sc_L_children (fun vs H Q E h => ?_) (fun cdv A outer s H vs Q E hr h => ?_)
  · obtain ⟨F, m, M, R, S, r, sg, rfl, _⟩ := h
    rfl
  · obtain ⟨F, m, M, R, S, r, sg, rfl, sF, hm, hM, hr', hs', q⟩ := h
    refine ⟨_, (pss_cons (ps_set (i := 3) sc_L_children.nd rfl (by first | exact Or.inl rfl | exact Or.inr rfl) (pe_cmpR op_eq (pe_callB (id := "sum") (cr_sum rfl) (by rfl) t.n_sum (by decide +kernel) (pa_cons (pe_lc (own := [("_law_entries", 5)]) (g := gName 5) (tt := tYes) rfl sc_L_children.nd (pi_list (pv 0)) (blkOk_by (N := N_L_children) (sc := defScope s_L_children) (by decide +kernel)) (fun _ _ _ _ _ => (pg_name (i := 5) sc_L_children.nd rfl (by first | exact Or.inl rfl | exact Or.inr rfl))) (fun _ _ _ _ _ => pts_nil) (fun _ _ _ _ _ => (pe_callB (id := "len") (crK (K := K) (r := rLenQ) rfl call_lenQ) (by rfl) t.n_len (by decide +kernel) (pa_cons (pe_lc (own := [("_law_entry", 4)]) (g := gName 4) rfl sc_L_children.nd (pi_listK (K := K) rfl (pv 5)) (blkOk_by (N := N_L_children) (sc := { kind := PySem.ScopeKind.function, names := [(PySem.Str.ofString ".0", PySem.NameKind.local), (PySem.Str.ofString "_law_entries", PySem.NameKind.local), (PySem.Str.ofString "len", PySem.NameKind.globalImplicit)], isGenerator := false, isCoroutine := false }) (by decide +kernel)) (fun _ _ _ _ _ => (pg_name (i := 4) sc_L_children.nd rfl (by first | exact Or.inl rfl | exact Or.inr rfl))) (fun _ _ _ _ _ => (pts_one (pt_cmpR (orK (K := K) (r := rNeD) rfl (op_neD hr.units)) (pv 4) (pe_tup pa_nil) (nomark _)))) (fun _ _ _ _ _ => (pv 4))) pa_nil)))) pa_nil)) pe_int (nomark _)))
      (pss_cons (ps_set (i := 6) sc_L_children.nd rfl (by first | exact Or.inl rfl | exact Or.inr rfl) (pe_lst pa_nil))
      (pss_cons (ps_for PassesOwn.never rfl (pi_range1 (by rfl) t.n_range (pa_cons (pe_callB (id := "min") (call_min2 rfl) (by rfl) t.n_min (by decide +kernel) (pa_cons (pe_callB (id := "len") call_lenQ (by rfl) t.n_len (by decide +kernel) (pa_cons (pe_ix ix_list (pv 0) pe_int (fun _ _ => rfl)) pa_nil)) (pa_cons (pe_op op_add (pe_call (ok_L_named_things t) (hr.mono (by decide)) (by rfl) t.m_L_named_things t.F_L_named_things.kp t.b_L_named_things .nil pass0 (pa_cons (pv 0) (pa_cons pe_int pa_nil))) pe_int) pa_nil))) pa_nil)) (pg_name (i := 7) sc_L_children.nd rfl (by first | exact Or.inl rfl | exact Or.inr rfl)) (pss_one (ps_for PassesOwn.never rfl (pi_list (pe_ix ix_list (pe_lst (pa_cons (pe_lst (pa_cons (pe_un un_neg pe_int) (pa_cons pe_int pa_nil))) (pa_cons (pe_lst (pa_cons pe_int pa_nil)) pa_nil))) (pe_callTy (T := "int") call_int1 (by rfl) t.n_int (by decide +kernel) (pa_cons (pv 3) pa_nil)) (fun _ _ => rfl))) (pg_name (i := 8) sc_L_children.nd rfl (by first | exact Or.inl rfl | exact Or.inr rfl)) (pss_one (ps_for PassesOwn.never rfl (pi_range1 (by rfl) t.n_range (pa_cons (pe_callB (id := "min") (call_min2 rfl) (by rfl) t.n_min (by decide +kernel) (pa_cons (pe_callB (id := "len") call_lenQ (by rfl) t.n_len (by decide +kernel) (pa_cons (pv 0) pa_nil)) (pa_cons (pe_op op_add (pe_call (ok_L_named_things t) (hr.mono (by decide)) (by rfl) t.m_L_named_things t.F_L_named_things.kp t.b_L_named_things .nil pass0 (pa_cons (pv 0) (pa_cons pe_int pa_nil))) pe_int) pa_nil))) pa_nil)) (pg_name (i := 9) sc_L_children.nd rfl (by first | exact Or.inl rfl | exact Or.inr rfl)) (pss_cons (ps_setLc (i := 10) (own := [("_law_entries", 5)]) (g := gName 5) (tt := tYes) rfl sc_L_children.nd rfl rfl (sw_true rfl rfl rfl (by decide +kernel)) (pi_list (pv 0)) (blkOk_by (N := N_L_children) (sc := defScope s_L_children) (by decide +kernel)) (fun _ _ _ _ _ => (pg_name (i := 5) sc_L_children.nd rfl (by first | exact Or.inl rfl | exact Or.inr rfl))) (fun _ _ _ _ _ => pts_nil) (fun _ _ _ _ _ => (pe_callTy (T := "list") (crK (K := K) (r := rListQ) rfl call_listQ) (by rfl) t.n_list (by decide +kernel) (pa_cons (pv 5) pa_nil))))
      (pss_cons (ps_asg (pe_tup (pa_cons (pv 7) (pa_cons (pv 8) (pa_cons (pv 9) pa_nil)))) (pg_sub (pe_ix ix_list (pv 10) (pv 1) (fun _ _ => rfl)) (pv 2) set_list))
      (pss_one (ps_expr (pe_bm PySem.F.plainAttrs_list PySem.F.slot_list_append PySem.F.type_list_append mt_append (pv 6) (pa_cons (pv 10) pa_nil)))))))))))
      (pss_one (ps_ret (pv 6)))))), ?_⟩
    have g0 : Gr mu0 F H F H := Gr.refl sF
    obtain ⟨am, rws, rfl, ham, hrs⟩ := id hm
    have r1 := hM.r1
    have r4 := hM.r4
    have s2 := hM.s2
    have s4 := hM.s4
    have lM : M.length = R := hM.len
    have lrs : rws.length = R := hrs.1.trans hM.len
    have l4 : M.length ≤ 4 := by omega
    have lr4 : ∀ row ∈ M, row.length ≤ 4 := fun row m => by have := hM.row row m; omega
    have i00 : 0 < rws.length := by omega
    obtain ⟨row00, hM00, a00, es00, er00, ha00, hes00⟩ := hrs.get' (List.getElem?_eq_getElem i00)
    have ls00 : es00.length = S := hes00.1.trans (hM.row _ (List.mem_of_getElem? hM00))
    have hx00 : rws[0]? = some (.ref a00) := (List.getElem?_eq_getElem i00).trans (congrArg some er00)
    obtain ⟨nP, enP, lP⟩ : ∃ nP : Nat, (nP : Int) = min (S : Int) (nmd ePut M + 1) ∧ nP ≤ 4 := by
      have := nmd_pos (f := ePut) (M := M)
      exact ⟨(min (S : Int) (nmd ePut M + 1)).toNat, by omega, by omega⟩
    obtain ⟨nG, enG, lG⟩ : ∃ nG : Nat, (nG : Int) = min (R : Int) (nmd eGo M + 1) ∧ nG ≤ 4 := by
      have := nmd_pos (f := eGo) (M := M)
      exact ⟨(min (R : Int) (nmd eGo M + 1)).toNat, by omega, by omega⟩
    have ek : kids M R S r sg = kidP M r sg (waysE M) nG nP := by rw [kids_eq, ← enP, ← enG, Int.toNat_natCast, Int.toNat_natCast]
    have lw : (waysE M).length ≤ 2 := by unfold waysE; split <;> decide
    -- first = sum([len([..]) ..]) == 0
    refine ⟨_, rfl, am, rfl, ⟨_, SqL.of (g0.fh _ _ ham)⟩, fun Z nZ => lc_list (K := K) (a := am) (xs := rws) (fun i G2 => Gr mu0 F H F G2 ∧ Ow H F G2 Z (.lst (((M.take i).map fun r => ((fullR r).length : Int)).map V.int)))
      ⟨g0.own nZ, Ow.mk1 g0 nZ⟩ (fun i G2 _ ⟨g, _⟩ => SqL.of (g.fh _ _ ham)) ?_ ?_⟩
    · rintro i y G2 hi ⟨g, wz⟩
      obtain ⟨row, hMi, ra, es, rfl, hra, hes⟩ := hrs.get' hi
      have il : i < M.length := (List.getElem?_eq_some_iff.mp hMi).1
      have l4' := lr4 row (List.mem_of_getElem? hMi)
      have les : es.length = row.length := hes.1
      refine ⟨rfl, yes ?_⟩
      refine ⟨_, rfl, ra, rfl, ⟨_, SqL.of (g.fh _ _ hra)⟩, fun Y nY => ?_⟩
      have ZY := ne_of_none wz.h nY
      refine lc_list (K := K) (a := ra) (xs := es) (fun j G3 => ∃ (ws : List V), Gr mu0 F H F G3 ∧ Ow H F G3 Z (.lst (((M.take i).map fun r => ((fullR r).length : Int)).map V.int)) ∧ Ow H F G3 Y (.lst ws) ∧ ws.length = (fullR (row.take j)).length)
        ⟨[], g.own nY, wz.own nY, Ow.mk1 g nY, rfl⟩ (fun j G3 _ ⟨_, g3, _⟩ => SqL.of (g3.fh _ _ hra)) ?_ ?_
      · rintro j x G3 hj ⟨ws, g3, wz3, wy, lw3⟩
        obtain ⟨e, he, ie⟩ := hes.get' hj
        have jl : j < es.length := (List.getElem?_eq_some_iff.mp hj).1
        refine ⟨rfl, _, rfl, nil_le, fun z nz => ?_⟩
        have g4 := g3.own (o := .tup []) nz
        have wz4 := wz3.own (u := .tup []) nz
        have wy4 := wy.own (u := .tup []) nz
        have e1 : fullR (row.take (j + 1)) = fullR (row.take j) ++ if e = .emp then [] else [e] := by
          unfold fullR
          rw [List.take_add_one, he, List.filter_append]
          congr 1
          show List.filter _ [e] = _
          rw [List.filter_cons]
          by_cases c : e = .emp
          · rw [if_pos c, c]; rfl
          · rw [if_neg c, decide_eq_true c]; rfl
        refine ne_dat (a := e) (b := Ent.emp) (ie.up g4.fh) ⟨z, rfl, upd_same⟩ ?_
        generalize upd G3 z (.tup []) = G4 at g4 wz4 wy4 ⊢
        have lj : (fullR (row.take j)).length ≤ 4 := by
          have : (fullR (row.take j)).length ≤ (row.take j).length := List.length_filter_le ..
          rw [List.length_take] at this
          omega
        refine ⟨_, rfl, ?_⟩
        by_cases c : e = .emp
        · refine ifF (by rw [decide_eq_true c]; rfl) ⟨ws, g4, wz4, wy4, ?_⟩
          rw [e1, if_pos c, List.append_nil]; exact lw3
        · refine ifT (by rw [decide_eq_false c]; rfl) ⟨_, rfl, ws, wy4.h, lt_size (by omega), ws ++ [x], g4.set wy4.f (.inl wy4.n), wz4.other ZY, wy4.set, ?_⟩
          rw [e1, if_neg c, List.length_append, List.length_append, lw3]; rfl
      · rintro G3 ⟨ws, g3, wz3, wy, lw3⟩
        rw [les, List.take_length] at lw3
        refine ⟨Y, ws, rfl, .inl (SqL.of wy.h), _, wz3.h, by rw [List.length_map, List.length_map, List.length_take]; exact lt_size (by omega), g3.set wz3.f (.inl wz3.n), ?_⟩
        rw [List.take_add_one, hMi, List.map_append, List.map_append, lw3]
        exact wz3.set
    · rintro G2 ⟨g, wz⟩
      rw [hrs.1, List.take_length] at wz
      refine ⟨Z, _, rfl, SqL.of wz.h, rfl, ?_⟩
      have hsum := sum_nn (l := M.map fun r => ((fullR r).length : Int)) fun x m => by
        obtain ⟨r, _, rfl⟩ := List.mem_map.mp m
        omega
      have ef : decide (V.int (M.map fun r => ((fullR r).length : Int)).sum = V.int 0) = decide (fullE M = []) := by
        rw [Bool.eq_iff_iff, decide_eq_true_iff, decide_eq_true_iff, full_nil, ← hsum.2]
        exact ⟨V.int.inj, fun z => by rw [z]⟩
      rw [ef]
      have ewy : waysE M = if decide (fullE M = []) = true then [1] else [-1, 1] := by
        unfold waysE
        by_cases c : fullE M = []
        · rw [if_pos c, if_pos (decide_eq_true c)]
        · rw [if_neg c, if_neg (by rw [decide_eq_false c]; exact fun z => nomatch z)]
      clear ef hsum wz
      generalize decide (fullE M = []) = bf at ewy ⊢
      refine ⟨nil_le, fun D nD => ?_⟩
      have gD := g.own (o := .lst []) nD
      have wD : Ow H F (upd G2 D (.lst [])) D (.lst []) := Ow.mk1 g nD
      generalize upd G2 D (.lst []) = H3 at gD wD ⊢
      refine ⟨_, rfl, am, rws, _, _, rfl, rfl, SqL.of (gD.fh _ _ (gD.ff _ _ ham)), atI_nat (j := 0) hx00, a00, es00, rfl, .inl (SqL.of (gD.fh _ _ (gD.ff _ _ ha00))), ?_⟩
      refine ⟨_, rfl, F, .ref am, M, 0, ePut, rfl, gD.fh, hm.up gD.ff, l4, lr4, fun p w r => atI_nat (j := 0) rfl, fun F4 H4 g4 => ⟨_, _, rfl, rfl, _, _, rfl, ?_⟩⟩
      have wD := wD.call g4 (fun z => z)
      have gD := gD.trans g4
      have np := nmd_pos (f := ePut) (M := M)
      have eP : (if nmd ePut M + 1 < (es00.length : Int) then nmd ePut M + 1 else (es00.length : Int)) = (nP : Int) := by rw [ls00, enP]; split <;> omega
      refine ⟨nP, by show [V.int (if nmd ePut M + 1 < (es00.length : Int) then nmd ePut M + 1 else (es00.length : Int))] = [V.int (nP : Int)]; rw [eP], by omega, by omega, for_range (lo := 0) (n := nP) (fun i σ G => ∃ (F5 : Hp) (us : List V) (v7 v8 v9 v10 : Option V), σ = [some (.ref am), some (.int r), some (.int sg), some (.bl bf), none, none, some (.ref D), v7, v8, v9, v10] ∧ Gr mu0 F H F5 G ∧ Ow H F5 G D (.lst us) ∧ IsAll F5 us (kidP M r sg (waysE M) nG i) ∧ us.length ≤ 8 * i)
        ⟨F4, [], none, none, none, none, rfl, gD, wD, All2.nil, Nat.le_refl _⟩ ?_ ?_⟩
      · clear gD wD g4 g nD
        rintro i σ G hi ⟨F5, us, v7, v8, v9, v10, rfl, g, wD, al, lx⟩
        refine ⟨_, rfl, two_le, fun wa nwa => ?_⟩
        obtain ⟨Fa, ga, hwa, sa, ca⟩ := g.newE (o := .lst [.int (-1), .int 1]) nwa
        have wD := wD.call ca (fun z => z)
        have al := al.up sa
        generalize upd G wa (.lst [.int (-1), .int 1]) = Ga at ga wD ⊢
        refine ⟨one_le, fun wb nwb => ?_⟩
        obtain ⟨Fb, gb, hwb, sb, cb⟩ := ga.newE (o := .lst [.int 1]) nwb
        have wD := wD.call cb (fun z => z)
        have al := al.up sb
        have hwa := sb _ _ hwa
        generalize upd Ga wb (.lst [.int 1]) = Gb at gb wD ⊢
        refine ⟨two_le, fun wc nwc => ?_⟩
        obtain ⟨Fc, gc, hwc, sc, cc⟩ := gb.newE (o := .lst [.ref wa, .ref wb]) nwc
        have wD := wD.call cc (fun z => z)
        have al := al.up sc
        have hwa := sc _ _ hwa
        have hwb := sc _ _ hwb
        generalize upd Gb wc (.lst [.ref wa, .ref wb]) = Gc at gc wD ⊢
        obtain ⟨jw, wy, ejw, hjw, hwy⟩ : ∃ (jw : Nat) (wy : Addr), (if bf = true then (1 : Int) else 0) = (jw : Int) ∧ [V.ref wa, V.ref wb][jw]? = some (.ref wy) ∧ Fc wy = some (.lst ((waysE M).map V.int)) := by
          cases bf with
          | true => exact ⟨1, wb, rfl, rfl, by rw [ewy]; exact hwb⟩
          | false => exact ⟨0, wa, rfl, rfl, by rw [ewy]; exact hwa⟩
        refine ⟨_, rfl, .inr ⟨_, rfl, ?_⟩⟩
        rw [ejw]
        refine ⟨wc, _, _, _, rfl, rfl, SqL.of (gc.fh _ _ hwc), atI_nat (j := jw) hjw, ?_⟩
        clear ca cb cc sa sb sc ga gb g hwa hwb hwc hjw ejw nwa nwb nwc
        refine ⟨wy, rfl, ⟨_, SqL.of (gc.fh _ _ hwy)⟩, for_list (K := K) (a := wy) (xs := (waysE M).map V.int) (fun j σ G => ∃ (F5 : Hp) (us : List V) (v8 v9 v10 : Option V), σ = [some (.ref am), some (.int r), some (.int sg), some (.bl bf), none, none, some (.ref D), some (.int (0 + (i : Int))), v8, v9, v10] ∧ Gr mu0 F H F5 G ∧ Same Fc F5 ∧ Ow H F5 G D (.lst us) ∧ IsAll F5 us (kidP M r sg (waysE M) nG i ++ kidW M r sg i ((waysE M).take j) nG) ∧ us.length ≤ 8 * i + 4 * j)
          ⟨Fc, us, _, _, _, rfl, gc, Same.refl _, wD, by rw [List.take_zero]; show IsAll _ _ (_ ++ []); rw [List.append_nil]; exact al, lx⟩ (fun j σ G _ ⟨_, _, _, _, _, _, g, s, _⟩ => SqL.of (g.fh _ _ (s _ _ hwy))) ?_ ?_⟩
        · clear gc wD al lx
          rintro j y σ G hj ⟨F5, us, v8, v9, v10, rfl, g, s5, wD, al, lx⟩
          rw [List.getElem?_map] at hj
          obtain ⟨w, hw, rfl⟩ := Option.map_eq_some_iff.mp hj
          have jl := (List.getElem?_eq_some_iff.mp hw).1
          refine ⟨_, rfl, am, rws, rfl, .inl (SqL.of (g.fh _ _ (g.ff _ _ ham))), ?_⟩
          refine ⟨_, rfl, F5, .ref am, M, 2, eGo, rfl, g.fh, hm.up g.ff, l4, lr4, fun p w r => atI_nat (j := 2) rfl, fun F6 H6 g6 => ⟨_, _, rfl, rfl, _, _, rfl, ?_⟩⟩
          have wD := wD.call g6 (fun z => z)
          have al := al.up g6.ff
          have g := g.trans g6
          have s5 : Same Fc F6 := fun c o h => g6.ff _ _ (s5 _ _ h)
          have ng := nmd_pos (f := eGo) (M := M)
          have eG : (if nmd eGo M + 1 < (rws.length : Int) then nmd eGo M + 1 else (rws.length : Int)) = (nG : Int) := by rw [lrs, enG]; split <;> omega
          refine ⟨nG, by show [V.int (if nmd eGo M + 1 < (rws.length : Int) then nmd eGo M + 1 else (rws.length : Int))] = [V.int (nG : Int)]; rw [eG], by omega, by omega, for_range (lo := 0) (n := nG) (fun k σ G => ∃ (F5 : Hp) (us : List V) (v9 v10 : Option V), σ = [some (.ref am), some (.int r), some (.int sg), some (.bl bf), none, none, some (.ref D), some (.int (0 + (i : Int))), some (.int w), v9, v10] ∧ Gr mu0 F H F5 G ∧ Same Fc F5 ∧ Ow H F5 G D (.lst us) ∧ IsAll F5 us (kidP M r sg (waysE M) nG i ++ kidW M r sg i ((waysE M).take j) nG ++ kidA M r sg i w k) ∧ us.length ≤ 8 * i + 4 * j + k)
            ⟨F6, us, _, _, rfl, g, s5, wD, by show IsAll _ _ (_ ++ []); rw [List.append_nil]; exact al, lx⟩ ?_ ?_⟩
          · clear g wD al lx g6
            rintro k σ G hk ⟨F5, us, v9, v10, rfl, g, s5, wD, al, lx⟩
            have e0 : (0 : Int) + (i : Int) = ((i : Nat) : Int) := by omega
            have e1 : (0 : Int) + (k : Int) = ((k : Nat) : Int) := by omega
            rw [e0, e1]
            -- child = [list(entries) for entries in machine]
            have g0' : Gr mu0 F5 G F5 G := Gr.refl g.fh
            have hamG : ∀ {G2 : Hp}, Gr mu0 F5 G F5 G2 → G2 am = some (.lst rws) := fun g2 => g2.fh _ _ (g.ff _ _ ham)
            refine ⟨_, rfl, am, rfl, ⟨_, SqL.of (hamG g0')⟩, fun Z nZ => lc_list (K := K) (a := am) (xs := rws) (fun i G2 => ∃ (rs : List Addr) (ess : List (List V)), Gr mu0 F5 G F5 G2 ∧ MaO G F5 G2 Z rs ess (M.take i))
              ⟨[], [], g0'.own nZ, ⟨Ow.mk1 g0' nZ, List.nodup_nil, (fun z => nomatch z), rfl, fun i r es h _ => (by cases h), All2.nil⟩⟩ (fun i G2 _ ⟨_, _, g2, _⟩ => SqL.of (hamG g2)) ?_ ?_⟩
            · rintro i' y G2 hi' ⟨rs, ess, g2, x⟩
              obtain ⟨row, hMi, ra, es, rfl, hra, hes⟩ := hrs.get' hi'
              have il : i' < M.length := (List.getElem?_eq_some_iff.mp hMi).1
              have lrs' : rs.length ≤ i' := by rw [x.len, x.dat.1, List.length_take]; omega
              refine ⟨rfl, yes ⟨_, rfl, ra, es, rfl, .inl (SqL.of (g2.fh _ _ (g.ff _ _ hra))), fun l nl => ?_⟩⟩
              obtain ⟨g4, x4⟩ := mao_step g2 x nl (hes.up g.ff)
              refine ⟨_, (x.ow.own nl).h, by rw [List.length_map]; exact lt_size (by omega), ?_⟩
              have e1 : rs.map V.ref ++ [V.ref l] = (rs ++ [l]).map V.ref := by rw [List.map_append]; rfl
              rw [e1]
              refine ⟨rs ++ [l], ess ++ [es], g4, ?_⟩
              rw [List.take_add_one, hMi]
              exact x4
            · rintro G2 ⟨rs, ess, g2, x⟩
              rw [hrs.1, List.take_length] at x
              have hi' : r < rs.length := by rw [x.len, x.dat.1]; omega
              have hrs' : rs[r]? = some rs[r] := List.getElem?_eq_getElem hi'
              have hes' : ess[r]? = some (ess[r]'(by rw [← x.len]; exact hi')) := List.getElem?_eq_getElem _
              have wD2 := wD.call g2 (fun z => z)
              refine ⟨_, rfl, _, rfl, _, rfl, three_le, fun T nT => ?_⟩
              obtain ⟨F6, g6, hT, s6, c6⟩ := g2.newE (o := .tup [.int (i : Int), .int w, .int (k : Int)]) nT
              have x6 := x.gr c6 fun c z => z.elim
              have wD3 := wD2.call c6 (fun z => z)
              have iT : Is F6 (.ref T) (Ent.go i w k) := ⟨T, rfl, hT⟩
              generalize upd G2 T (.tup [.int (i : Int), .int w, .int (k : Int)]) = G3 at g6 x6 wD3 ⊢
              obtain ⟨row, hrow, al'⟩ := x6.dat.get' hes'
              have w7 := x6.rows _ _ _ hrs' hes'
              have lr := hM.row row (List.mem_of_getElem? hrow)
              refine ⟨_, rfl, _, rfl, Z, _, _, _, rfl, rfl, SqL.of x6.ow.h, atI_nat (j := r) (by rw [List.getElem?_map, hrs']; rfl), ?_⟩
              refine ⟨_, rfl, _, _, (sg : Int), _, rfl, rfl, w7.h, ixN_of (by omega) (by rw [al'.1, lr]; omega), ?_⟩
              have x8 := x6.put (j := ((sg : Nat) : Int).toNat) hrs' hes' hrow iT
              have e : setE M r sg (.go i w k) = M.set r (row.set ((sg : Nat) : Int).toNat (.go i w k)) := by unfold setE; rw [hrow, Int.toNat_natCast]; rfl
              rw [← e] at x8
              have Dr : D ≠ rs[r] := fun z => by
                have a1 := wD.h
                rw [z, w7.n] at a1; cases a1
              have g8 := g6.set (o := .lst ((ess[r]'(by rw [← x.len]; exact hi')).set ((sg : Nat) : Int).toNat (.ref T))) w7.f (.inl w7.n)
              have wD4 := wD3.other (u := .lst ((ess[r]'(by rw [← x.len]; exact hi')).set ((sg : Nat) : Int).toNat (.ref T))) Dr
              generalize upd G3 rs[r] _ = G4 at x8 g8 wD4 ⊢
              obtain ⟨F9, g9, s9, mr, _⟩ := x8.mr g8
              have wD5 := wD.call g9 (fun z => z)
              refine ⟨_, rfl, .inl ⟨rfl, _, SqL.of wD5.h⟩, _, rfl, D, us, _, rfl, rfl, wD5.h, lt_size (by omega), ?_⟩
              have gg := (g.trans g9).set (o := .lst (us ++ [.ref Z])) wD5.f (.inl wD5.n)
              refine ⟨F9, us ++ [.ref Z], _, _, rfl, gg, fun c o h => g9.ff _ _ (s5 _ _ h), wD5.set, ?_, by rw [List.length_append]; exact Nat.succ_le_succ lx⟩
              rw [kidA_succ, ← List.append_assoc]
              exact (al.up g9.ff).app (All2.one mr.is)
          · rintro σ G ⟨F5, us, v9, v10, rfl, g, s5, wD, al, lx⟩
            refine ⟨F5, us, _, _, _, rfl, g, s5, wD, ?_, by omega⟩
            rw [List.take_add_one, hw, Option.toList_some, kidW_snoc, ← List.append_assoc]
            exact al
        · rintro σ G ⟨F5, us, v8, v9, v10, rfl, g, s5, wD, al, lx⟩
          rw [List.length_map] at lx al
          rw [List.take_length] at al
          exact ⟨F5, us, _, _, _, _, rfl, g, wD, by rw [kidP_succ]; exact al, by omega⟩
      · rintro σ G ⟨F5, us, v7, v8, v9, v10, rfl, g, wD, al, lx⟩
        have gf := g.frz wD.h wD.n wD.f
        have sf : Same F5 (upd F5 D (.lst us)) := sm_up wD.f
        exact ⟨_, rfl, q _ G D us gf upd_same (by rw [ek]; exact al.up sf) (by omega)⟩
theorem All2.rev {α β : Type} {r : α → β → Prop} {xs : List α} {ys : List β} (h : All2 r xs ys) : All2 r xs.reverse ys.reverse := by
  refine ⟨by rw [List.length_reverse, List.length_reverse, h.1], fun i x y p q => ?_⟩
  have l1 : i < xs.length := by have := (List.getElem?_eq_some_iff.mp p).1; rwa [List.length_reverse] at this
  rw [List.getElem?_reverse l1] at p
  rw [List.getElem?_reverse (by rw [← h.1]; exact l1), ← h.1] at q
  exact h.2 _ x y p q
/-! ### the law's own nodes -/
def MetV (F : Hp) (qv : V) (M : Mach) : Prop := ∀ (k : Nat) (c : Cfg), Gone M 200 k c → (entOf M c ≠ .emp ∧ qv = .non) ∨ (entOf M c = .emp ∧ ∃ (T : Addr) (dv : V), qv = .ref T ∧ F T = some (.tup [.int k, .int c.r, .int (gz c.l c.s), dv]))
theorem MetV.up {F F' : Hp} {qv : V} {M : Mach} (h : MetV F qv M) (s : Same F F') : MetV F' qv M := fun k c go => by
  rcases h k c go with h | ⟨e, T, dv, e1, e2⟩
  · exact .inl h
  · exact .inr ⟨e, T, dv, e1, s _ _ e2⟩
theorem met_sp {F H : Hp} {m : V} {M : Mach} {R S : Nat} {Q : VK} {E : XK} (sF : Same F H) (hm : Is F m M) (hM : MOk M R S) (q : ∀ (F' H' : Hp) (qv : V), Gr mu0 F H F' H' → MetV F' qv M → Q qv H') : sp_L_met [m, .int 200] H Q E := by
  refine ⟨F, m, M, R, S, rfl, sF, hm, hM, fun k c go ne H' g => q F H' .non g fun k' c' go' => ?_, fun k c go e F' H' T dv g hT => q F' H' (.ref T) g fun k' c' go' => ?_⟩
  · obtain ⟨rfl, rfl⟩ := go.uniq go'
    exact .inl ⟨ne, rfl⟩
  · obtain ⟨rfl, rfl⟩ := go.uniq go'
    exact .inr ⟨e, T, dv, rfl, hT⟩
def DueAt (F : Hp) (v : V) (M : Mach) : Prop := ∃ (T : Addr) (mv qv : V), v = .ref T ∧ F T = some (.tup [mv, qv]) ∧ Is F mv M ∧ MetV F qv M
theorem DueAt.up {F F' : Hp} {v : V} {M : Mach} (h : DueAt F v M) (s : Same F F') : DueAt F' v M := by
  obtain ⟨T, mv, qv, e, h1, h2, h3⟩ := h
  exact ⟨T, mv, qv, e, s _ _ h1, h2.up s, h3.up s⟩
theorem getLast_all {α β : Type} {r : α → β → Prop} {xs : List α} {ys : List β} {y : β} (h : All2 r xs ys) (e : ys.getLast? = some y) : ∃ x, xs = xs.dropLast ++ [x] ∧ r x y ∧ All2 r xs.dropLast ys.dropLast := by
  obtain ⟨zs, rfl⟩ := List.getLast?_eq_some_iff.mp e
  have l : xs.length = zs.length + 1 := by rw [h.1, List.length_append]; rfl
  have ne : xs ≠ [] := fun z => by rw [z] at l; cases l
  obtain ⟨w0, x, rfl⟩ : ∃ w0 x, xs = w0 ++ [x] := ⟨xs.dropLast, xs.getLast ne, (List.dropLast_concat_getLast ne).symm⟩
  have l0 : w0.length = zs.length := by rw [List.length_append] at l; exact Nat.succ.inj l
  rw [List.dropLast_concat, List.dropLast_concat]
  refine ⟨x, rfl, h.2 zs.length _ _ ?_ ?_, l0, fun i u z h1 h2 => h.2 i u z ?_ ?_⟩
  · rw [← l0, List.getElem?_append_right (Nat.le_refl _), Nat.sub_self]; rfl
  · rw [List.getElem?_append_right (Nat.le_refl _), Nat.sub_self]; rfl
  · rw [List.getElem?_append_left (List.getElem?_eq_some_iff.mp h1).1]; exact h1
  · rw [List.getElem?_append_left (List.getElem?_eq_some_iff.mp h2).1]; exact h2
def sp_L_nodes : Sp := fun vs H Q _ => ∃ (F : Hp) (R S N : Nat), vs = [.int R, .int S] ∧ Same F H ∧ 1 ≤ R ∧ R ≤ 4 ∧ 2 ≤ S ∧ S ≤ 4 ∧ N ≤ 1000 ∧ TreeOk R S N ∧
  ∀ (F' H' : Hp) (L : Addr) (us : List V), Gr mu0 F H F' H' → F' L = some (.lst us) → All2 (DueAt F') us (tits R S N).2 → Q (.ref L) H'
theorem ok_L_nodes (t : Tx K mg) : FnOk P w K mg base CX0 3 t.a_L_nodes t.fd_L_nodes ["_law_rows", "_law_signs"] sp_L_nodes := by
  refine t.F_L_nodes.ok sc_L_nodes (fun vs H Q E h => ?_) (fun cdv A outer s H vs Q E hr h => ?_)
  · obtain ⟨F, R, S, N, rfl, _⟩ := h
    rfl
  · obtain ⟨F, R, S, N, rfl, sF, R1, R4, S2, S4, N1, tok, q⟩ := h
    refine ⟨_, (pss_cons (ps_set (i := 2) sc_L_nodes.nd rfl (by first | exact Or.inl rfl | exact Or.inr rfl) (pe_lst (pa_cons (pe_lc (own := [("_law_row", 3)]) (g := gName 3) (tt := tYes) rfl sc_L_nodes.nd (pi_range1 (by rfl) t.n_range (pa_cons (pv 0) pa_nil)) (blkOk_by (N := N_L_nodes) (sc := defScope s_L_nodes) (by decide +kernel)) (fun _ _ _ _ _ => (pg_name (i := 3) sc_L_nodes.nd rfl (by first | exact Or.inl rfl | exact Or.inr rfl))) (fun _ _ _ _ _ => pts_nil) (fun _ _ _ _ _ => (pe_op op_rep (pe_lst (pa_cons (pe_tup pa_nil) pa_nil)) (pv 1)))) pa_nil)))
      (pss_cons (ps_set (i := 4) sc_L_nodes.nd rfl (by first | exact Or.inl rfl | exact Or.inr rfl) (pe_lst pa_nil))
      (pss_cons (ps_while PassesOwn.never (pt_cmpR op_gt (pe_callB (id := "len") call_lenQ (by rfl) t.n_len (by decide +kernel) (pa_cons (pv 2) pa_nil)) pe_int (nomark _)) (pss_cons (ps_set (i := 5) sc_L_nodes.nd rfl (by first | exact Or.inl rfl | exact Or.inr rfl) (pe_bm0 PySem.F.plainAttrs_list PySem.F.slot_list_pop PySem.F.type_list_pop mt_pop (pv 2)))
      (pss_cons (ps_set (i := 6) sc_L_nodes.nd rfl (by first | exact Or.inl rfl | exact Or.inr rfl) (pe_call (ok_L_met t) (hr.mono (by decide)) (by rfl) t.m_L_met t.F_L_met.kp t.b_L_met .nil pass0 (pa_cons (pv 5) (pa_cons pe_int pa_nil))))
      (pss_cons (ps_expr (pe_bm PySem.F.plainAttrs_list PySem.F.slot_list_append PySem.F.type_list_append mt_append (pv 4) (pa_cons (pe_tup (pa_cons (pv 5) (pa_cons (pv 6) pa_nil))) pa_nil)))
      (pss_one (ps_if (pt_cmpR op_notN (pv 6) pe_non (nomark _)) (pss_one (ps_set (i := 2) sc_L_nodes.nd rfl (by first | exact Or.inl rfl | exact Or.inr rfl) (pe_op op_cat (pv 2) (pe_revL (pe_call (ok_L_children t) (hr.mono (by decide)) (by rfl) t.m_L_children t.F_L_children.kp t.b_L_children .nil pass0 (pa_cons (pv 5) (pa_cons (pe_ix ix_tup (pv 6) pe_int (fun _ _ => rfl)) (pa_cons (pe_ix ix_tup (pv 6) pe_int (fun _ _ => rfl)) pa_nil)))))))) pss_nil))))))
      (pss_one (ps_ret (pv 4)))))), ?_⟩
    have g0 : Gr mu0 F H F H := Gr.refl sF
    refine ⟨_, rfl, (R : Int), rfl, by omega, by omega, fun Z nZ => lc_range (lo := 0) (n := ((R : Int)).toNat) (fun i G => ∃ (F1 : Hp) (rs : List Addr) (ess : List (List V)), Gr mu0 F H F1 G ∧ MaO H F1 G Z rs ess (List.replicate i (List.replicate S .emp)))
      ⟨F, [], [], g0.own nZ, ⟨Ow.mk1 g0 nZ, List.nodup_nil, (fun z => nomatch z), rfl, fun i r es h _ => (by cases h), All2.nil⟩⟩ ?_ ?_⟩
    · rintro i G hi ⟨F1, rs, ess, g, x⟩
      refine ⟨rfl, yes ⟨nil_le, fun e ne => ⟨one_le, fun l nl => ?_⟩⟩⟩
      have k1 := (Gr.refl (mu := mu0) g.fh).new (o := .tup []) ne
      have ie : Is (upd F1 e (.tup [])) (.ref e) Ent.emp := ⟨e, rfl, upd_same⟩
      generalize upd F1 e (.tup []) = F2 at k1 ie
      generalize upd G e (.tup []) = G2 at k1 nl ⊢
      have k2 := k1.own (o := .lst [.ref e]) nl
      have hl : (upd G2 l (.lst [.ref e])) l = some (.lst [.ref e]) := upd_same
      generalize upd G2 l (.lst [.ref e]) = G3 at k2 hl ⊢
      have x3 := x.gr k2 fun c z => z.elim
      have g3 := g.trans k2
      refine ⟨_, rfl, l, (S : Int), _, rfl, rfl, hl, by omega, by omega, le_size (by show 1 * _ ≤ _; omega), fun r nr => ?_⟩
      have es : (List.replicate ((S : Int)).toNat [V.ref e]).flatten = List.replicate S (V.ref e) := by rw [List.flatten_replicate_singleton, Int.toNat_natCast]
      rw [es]
      have lrs : rs.length = i := by rw [x.len, x.dat.1, List.length_replicate]
      obtain ⟨g4, x4⟩ := mao_step g3 x3 nr (isall_rep ie S)
      refine ⟨_, (x3.ow.own nr).h, by rw [List.length_map]; exact lt_size (by omega), ?_⟩
      have e1 : rs.map V.ref ++ [V.ref r] = (rs ++ [r]).map V.ref := by rw [List.map_append]; rfl
      rw [e1]
      exact ⟨F2, rs ++ [r], _, g4, by rw [List.replicate_succ']; exact x4⟩
    rintro G0 ⟨F1, rs, ess, g1, x1⟩
    rw [Int.toNat_natCast] at x1
    obtain ⟨F2, g2, _, mr2, _⟩ := x1.mr g1
    refine ⟨one_le, fun W nW => ?_⟩
    have g3 := g2.own (o := .lst [.ref Z]) nW
    have wW : Ow H F2 (upd G0 W (.lst [.ref Z])) W (.lst [.ref Z]) := Ow.mk1 g2 nW
    generalize upd G0 W (.lst [.ref Z]) = H3 at g3 wW ⊢
    refine ⟨nil_le, fun D nD => ?_⟩
    have wD : Ow H F2 (upd H3 D (.lst [])) D (.lst []) := Ow.mk1 g3 nD
    have WD : W ≠ D := ne_of_none wW.h nD
    have wW := wW.own (u := .lst []) nD
    have g4 := g3.own (o := .lst []) nD
    generalize upd H3 D (.lst []) = H4 at g4 wW wD ⊢
    refine ⟨fun k σ G => ∃ (i : Nat) (F1 : Hp) (W : Addr) (ws us : List V) (v3 v5 v6 : Option V), k = N - i ∧ σ = [some (.int R), some (.int S), some (.ref W), v3, some (.ref D), v5, v6] ∧ i ≤ N ∧ Gr mu0 F H F1 G ∧ Ow H F1 G W (.lst ws) ∧ Ow H F1 G D (.lst us) ∧ W ≠ D ∧
        IsAll F1 ws (tits R S i).1 ∧ All2 (DueAt F1) us (tits R S i).2,
      ⟨_, 0, F2, W, [.ref Z], [], none, none, none, rfl, rfl, Nat.zero_le _, g4, wW, wD, WD, All2.one mr2.is, All2.nil⟩, ?_⟩
    clear wW wD WD g4 g3 g2 g1 mr2 x1 nW nD nZ
    rintro k σ G ⟨i, F1, W, ws, us, v3, v5, v6, rfl, rfl, iN, g, wW, wD, WD, al, du⟩
    have lus : us.length = i := by
      have : ∀ n, n ≤ N → (tits R S n).2.length = n := fun n => by
        induction n with
        | zero => intro _; rfl
        | succ n ih =>
          intro hn
          obtain ⟨M, hM⟩ := tok.node n (by omega)
          rw [tits_last hM.last]
          show ((tits R S n).2 ++ [M]).length = _
          rw [List.length_append, ih (by omega)]; rfl
      rw [du.1, this i iN]
    refine ⟨_, rfl, W, ws, rfl, .inl (SqL.of wW.h), _, _, rfl, rfl, _, rfl, ?_⟩
    have lws : ws.length = (tits R S i).1.length := al.1
    by_cases cn : (tits R S i).1 = []
    · have l0 : ws.length = 0 := by rw [lws, cn]; rfl
      refine ifF (decide_eq_false (by omega)) ⟨_, rfl, ?_⟩
      have eN : i = N := by
        by_cases c : i = N
        · exact c
        · obtain ⟨M, hM⟩ := tok.node i (by omega)
          have := hM.last
          rw [cn] at this; cases this
      subst eN
      have gf := g.frz wD.h wD.n wD.f
      have sf : Same F1 (upd F1 D (.lst us)) := sm_up wD.f
      exact q _ G D us gf upd_same (du.imp fun _ _ z => z.up sf)
    · have l0 : 0 < ws.length := by rw [lws]; exact List.length_pos_iff.mpr cn
      refine ifT (decide_eq_true (by show (0 : Int) < (ws.length : Int); omega)) ⟨_, fun _ _ h => h, ?_⟩
      have il : i < N := by
        by_cases c : i = N
        · subst c
          exact absurd tok.fin cn
        · omega
      obtain ⟨M, hM⟩ := tok.node i il
      obtain ⟨x, exw, ix, alx⟩ := getLast_all al hM.last
      have few := hM.few
      rw [← lws] at few
      have lwd : ws.dropLast.length ≤ 1000 := by rw [List.length_dropLast]; omega
      refine ⟨_, rfl, .inl ⟨rfl, _, SqL.of wW.h⟩, W, ws, x, rfl, rfl, wW.h, by
        have : ws[ws.length - 1]? = (ws.dropLast ++ [x])[ws.length - 1]? := by rw [← exw]
        rw [this, List.getElem?_append_right (by rw [List.length_dropLast]; exact Nat.le_refl _), List.length_dropLast, Nat.sub_self]; rfl, ?_⟩
      generalize ws.dropLast = w0 at exw alx lwd ⊢
      have wW1 := wW.set (u := .lst w0)
      have wD1 := wD.other (u := .lst w0) WD.symm
      have g5 := g.set (o := .lst w0) wW.f (.inl wW.n)
      generalize upd G W (.lst w0) = G5 at g5 wW1 wD1 ⊢
      clear wW wD g
      refine ⟨_, rfl, ?_⟩
      dsimp only [tCons, tNil, tC]
      refine met_sp g5.fh ix hM.ok fun F6 G6 qv g6 hq => ?_
      have g7 := g5.trans g6
      have wW2 := wW1.call g6 (fun z => z)
      have wD2 := wD1.call g6 (fun z => z)
      refine ⟨_, rfl, .inl ⟨rfl, _, SqL.of wD2.h⟩, _, rfl, _, rfl, two_le, fun T nT => ?_⟩
      obtain ⟨F7, g8, hT, s7, c7⟩ := g7.newE (o := .tup [x, qv]) nT
      have wW3 := wW2.call c7 (fun z => z)
      have wD3 := wD2.call c7 (fun z => z)
      generalize upd G6 T (.tup [x, qv]) = G7 at g8 wW3 wD3 ⊢
      refine ⟨D, _, _, rfl, rfl, wD3.h, by rw [lus]; exact lt_size (by omega), ?_⟩
      have s17 : Same F1 F7 := fun c o h => s7 _ _ (g6.ff _ _ h)
      have dT : DueAt F7 (.ref T) M := ⟨T, x, qv, rfl, hT, ix.up s17, hq.up s7⟩
      have g9 := g8.set (o := .lst (us ++ [.ref T])) wD3.f (.inl wD3.n)
      have wD4 := wD3.set (u := .lst (us ++ [.ref T]))
      have wW4 := wW3.other (u := .lst (us ++ [.ref T])) WD
      generalize upd G7 D (.lst (us ++ [.ref T])) = G8 at g9 wD4 wW4 ⊢
      have ex8 : All2 (DueAt F7) (us ++ [.ref T]) (tits R S (i + 1)).2 := by
        rw [tits_last hM.last]
        exact (du.imp fun _ _ z => z.up s17).app (All2.one dT)
      have ew8 : (tits R S (i + 1)).1 = grow R S (tits R S i).1 M := by rw [tits_last hM.last]
      clear wW1 wW2 wW3 wD1 wD2 wD3 g8 g7 g5
      have go := goN_gone (M := M) (m := 200) 200 0 c0 rfl rfl
      generalize (goN M 200 0 c0).1 = kk at go
      generalize (goN M 200 0 c0).2 = c at go
      refine ⟨_, rfl, rfl, _, rfl, ?_⟩
      rcases hq kk c go with ⟨ne, rfl⟩ | ⟨e, T', dv, rfl, hT'⟩
      · refine ifF rfl ?_
        have em : metM M = none := by rw [metM_of go, if_neg ne]
        refine ⟨N - (i + 1), by omega, i + 1, F7, W, w0, us ++ [.ref T], _, _, _, rfl, rfl, by omega, g9, wW4, wD4, WD, ?_, ex8⟩
        rw [ew8]
        unfold grow
        rw [em, List.append_nil]
        exact IsAll.up alx s17
      · refine ifT rfl ?_
        have em : metM M = some (c.r.toNat, (gz c.l c.s).toNat) := by rw [metM_of go, if_pos e]
        obtain ⟨cok, _⟩ := stepsC_ok hM.ok go.stp
        obtain ⟨z0, z1⟩ := cok.look (by omega) c.s
        have z0 : 0 ≤ gz c.l c.s := z0
        have z1 : gz c.l c.s < S := z1
        have r0 := cok.r0
        have r1 := cok.r1
        have hTG := SqT.of (K := K) (g9.fh _ _ (s7 _ _ hT'))
        refine ⟨_, rfl, _, rfl, _, rfl, T', _, _, _, rfl, rfl, hTG, atI_nat (j := 1) rfl, _, rfl, T', _, _, _, rfl, rfl, hTG, atI_nat (j := 2) rfl, F7, x, M, R, S, c.r.toNat, (gz c.l c.s).toNat, (by show [x, V.int c.r, V.int (gz c.l c.s)] = [x, V.int (c.r.toNat : Int), V.int ((gz c.l c.s).toNat : Int)]; rw [Int.toNat_of_nonneg r0, Int.toNat_of_nonneg z0]), g9.fh, ix.up s17, hM.ok, by omega, by omega, fun F10 G10 u cs g12 hu icc l32 => ?_⟩
        have g13 := g9.trans g12
        have wW6 := wW4.call g12 (fun z => z)
        have wD6 := wD4.call g12 (fun z => z)
        refine ⟨u, _, rfl, SqL.of (g12.fh _ _ hu), fun v nv => ?_⟩
        have g14 := g13.own (o := .lst cs.reverse) nv
        have wW7 := wW6.own (u := .lst cs.reverse) nv
        have wD7 := wD6.own (u := .lst cs.reverse) nv
        have hv : (upd G10 v (.lst cs.reverse)) v = some (.lst cs.reverse) := upd_same
        generalize upd G10 v (.lst cs.reverse) = G11 at g14 wW7 wD7 hv ⊢
        refine ⟨W, v, _, _, rfl, rfl, wW7.h, hv, le_size (by rw [List.length_reverse]; omega), fun Z nZ => ?_⟩
        have g15 := g14.own (o := .lst (w0 ++ cs.reverse)) nZ
        have wZ : Ow H F10 (upd G11 Z (.lst (w0 ++ cs.reverse))) Z (.lst (w0 ++ cs.reverse)) := Ow.mk1 g14 nZ
        have ZD : Z ≠ D := (ne_of_none wD7.h nZ).symm
        have wD8 := wD7.own (u := .lst (w0 ++ cs.reverse)) nZ
        refine ⟨N - (i + 1), by omega, i + 1, F10, Z, w0 ++ cs.reverse, us ++ [.ref T], _, _, _, rfl, rfl, by omega, g15, wZ, wD8, ZD, ?_, ex8.imp fun _ _ z => z.up g12.ff⟩
        rw [ew8]
        unfold grow
        rw [em]
        exact (IsAll.up (IsAll.up alx s17) g12.ff).app icc.rev
/-- two papers of one kind and content are equal -/
theorem pap_dat {p : Pap6} : ∃ (α : Type) (_ : Dat α) (_ : DecidableEq α) (d : α), Dat.dep α ≤ 64 ∧ ∀ {F : Hp} {T : Addr}, Pap6At F T p → Is F (.ref T) d := by
  cases p with
  | ends n => exact ⟨T2 TStr Int, inferInstance, inferInstance, ⟨tEnds, n⟩, by decide, fun h => ⟨_, _, _, rfl, h, rfl, rfl⟩⟩
  | ring f l => exact ⟨T3 TStr Int Int, inferInstance, inferInstance, ⟨tRing, f, l⟩, by decide, fun h => ⟨_, _, _, _, rfl, h, rfl, rfl, rfl⟩⟩
  | drift f l => exact ⟨T3 TStr Int Int, inferInstance, inferInstance, ⟨tDrift, f, l⟩, by decide, fun h => ⟨_, _, _, _, rfl, h, rfl, rfl, rfl⟩⟩
  | back d => exact ⟨T2 TStr Int, inferInstance, inferInstance, ⟨tBack, d⟩, by decide, fun h => ⟨_, _, _, rfl, h, rfl, rfl⟩⟩
  | shut w A B C =>
    refine ⟨T5 TStr Int (List Wd) (List Wd) (List Md), inferInstance, inferInstance, ⟨tShut, w, A, B, C⟩, by decide, fun h => ?_⟩
    obtain ⟨a, b, c, xs, ys, zs, hT, ha, hb, hc, ia, ib, ic⟩ := h
    exact ⟨_, _, _, _, _, _, rfl, hT, rfl, rfl, ⟨a, xs, rfl, ha, ia⟩, ⟨b, ys, rfl, hb, ib⟩, ⟨c, zs, rfl, hc, ic⟩⟩
  | opn => exact ⟨Tup TStr, inferInstance, inferInstance, ⟨[tOpen]⟩, by decide, fun h => ⟨_, _, rfl, h, All2.one rfl⟩⟩
theorem ne_pap {K : PySem.W.Frag} {H : Hp} {T T' : Addr} {p : Pap6} {Q : VK} (h : Pap6At H T p) (h' : Pap6At H T' p) (q : Q (.bl false) H) : rNeD K (.ref T) (.ref T') H Q := by
  obtain ⟨α, i1, i2, d, hd, k⟩ := pap_dat (p := p)
  refine ne_dat (a := d) (b := d) (k h) (k h') ?_ hd
  rw [decide_eq_true rfl]; exact q
theorem SrtA.eq {M : Mach} {R S : Nat} (hM : MOk M R S) {p p' : Pap6} (a : SrtA M R S p) (b : SrtA M R S p') : p = p' := by
  have mix : ∀ {p : Pap6} {k : Nat} {s : SS}, Srt M R S p → SrtS M S k s → False := fun {p k s} a b => by
    cases p with
    | ends n => exact b.1 n a.2 a.1
    | ring f l => have := a.2.uniq b.2.1; cases this
    | drift f l => have := a.2.2.uniq b.2.2.1; cases this
    | back d => exact a.2.2.2.1.no b.2.2.2
    | shut w A B C => exact a.elim
    | opn => exact a.2.2.2.1.no b.2.2.2
  rcases a with a | ⟨k, s, a, rfl⟩
  · rcases b with b | ⟨k', s', b, rfl⟩
    · cases p <;> cases p' <;> first
        | exact congrArg Pap6.ends (Ends.uniq a.1 b.1)
        | exact absurd a.1 (b.1 _ a.2)
        | exact absurd b.1 (a.1 _ b.2)
        | exact a.elim
        | exact b.elim
        | rfl
        | (have := a.2.uniq b.2; cases this; rfl)
        | (have := a.2.uniq b.2.1; cases this)
        | (have := a.2.1.uniq b.2; cases this)
        | (have := a.2.2.uniq b.2.2; cases this; rfl)
        | (have := a.2.2.uniq b.2.2.1; cases this)
        | (have := a.2.2.1.uniq b.2.2; cases this)
        | (have := a.2.2.2.2.uniq b.2.2.2.2; cases this; rfl)
        | (have := a.2.2.2.2.uniq b.2.2.2.2; cases this)
    · exact (mix a b).elim
  · rcases b with b | ⟨k', s', b, rfl⟩
    · exact (mix b a).elim
    · obtain ⟨rfl, e⟩ := a.2.2.2.uniq hM b.2.2.2
      unfold papOf at e
      injection e with _ _ e1 e2 e3
      rw [e1, e2, e3]
/-! ### what is known of the told nodes (plain) -/
theorem MROk.pl {F : Hp} {x : MR} (h : MROk F x) : Pl F 3 (.ref x.m) := by
  obtain ⟨a, rs, e, ha, hr⟩ := h.is
  cases e
  refine .inr ⟨x.m, rs, rfl, .inl ha, fun v m => ?_⟩
  obtain ⟨i, hi⟩ := List.getElem?_of_mem m
  obtain ⟨row, _, b, es, rfl, hb, he⟩ := hr.get' hi
  refine .inr ⟨b, es, rfl, .inl hb, fun u m' => ?_⟩
  obtain ⟨j, hj⟩ := List.getElem?_of_mem m'
  obtain ⟨e, _, T, rfl, hT⟩ := he.get' hj
  cases e with
  | emp => exact .inr ⟨T, [], rfl, .inr hT, fun y m => absurd m List.not_mem_nil⟩
  | go p w r =>
    refine .inr ⟨T, _, rfl, .inr hT, fun y m => ?_⟩
    simp only [List.mem_cons, List.not_mem_nil, or_false] at m
    rcases m with rfl | rfl | rfl
    · exact .inl ⟨_, rfl⟩
    · exact .inl ⟨_, rfl⟩
    · exact .inl ⟨_, rfl⟩
theorem pl_wd {F : Hp} {v : V} {x : Wd} (h : Is F v x) : Pl F 1 v := by
  obtain ⟨c, rfl, hc⟩ := wd_ref h
  exact .inr ⟨c, _, rfl, .inr hc, fun y m => by
    obtain ⟨i, _, rfl⟩ := List.mem_map.mp m
    exact .inl ⟨i, rfl⟩⟩
theorem Pl.nx {F : Hp} : ∀ {n : Nat} {v : V}, Pl F n v → Pl F (n + 1) v
  | 0, _, h => .inl h
  | n + 1, _, .inl h => .inl h
  | n + 1, _, .inr ⟨a, xs, e, h, k⟩ => .inr ⟨a, xs, e, h, fun x m => (k x m).nx⟩
theorem pl_md {F : Hp} {v : V} {x : Md} (h : Is F v x) : Pl F 2 v := by
  obtain ⟨p, x0, x1, x2, x3, rfl, hp, i0, i1, i2, i3⟩ := h
  refine .inr ⟨p, _, rfl, .inr hp, fun y m => ?_⟩
  simp only [List.mem_cons, List.not_mem_nil, or_false] at m
  rcases m with rfl | rfl | rfl | rfl
  · exact pl_wd i0
  · exact Pl.at0 (.inl ⟨_, i1⟩) 1
  · exact Pl.at0 (.inl ⟨_, i2⟩) 1
  · exact pl_wd i3
theorem pl_al {F : Hp} {α : Type} [Dat α] {n : Nat} (k : ∀ (v : V) (d : α), Is F v d → Pl F n v) {a : Addr} {xs : List V} {l : List α} (ha : F a = some (.lst xs)) (al : IsAll F xs l) : Pl F (n + 1) (.ref a) :=
  .inr ⟨a, xs, rfl, .inl ha, fun x m => by
    obtain ⟨i, hi⟩ := List.getElem?_of_mem m
    obtain ⟨d, _, hd⟩ := al.get' hi
    exact k x d hd⟩
theorem pl_flat {F : Hp} {T : Addr} {xs : List V} (h : F T = some (.tup xs)) (k : ∀ x ∈ xs, At0 x) : Pl F 4 (.ref T) := .inr ⟨T, xs, rfl, .inr h, fun x m => Pl.at0 (k x m) 3⟩
theorem Pap6At.pl {F : Hp} {T : Addr} {p : Pap6} (h : Pap6At F T p) : Pl F 4 (.ref T) := by
  have two : ∀ {w : Str} {n : Nat}, F T = some (.tup [.str w, .int n]) → Pl F 4 (.ref T) := fun h => pl_flat h fun x m => by
    simp only [List.mem_cons, List.not_mem_nil, or_false] at m
    rcases m with rfl | rfl
    · exact .inr (.inr ⟨_, rfl⟩)
    · exact .inl ⟨_, rfl⟩
  have three : ∀ {w : Str} {n k : Nat}, F T = some (.tup [.str w, .int n, .int k]) → Pl F 4 (.ref T) := fun h => pl_flat h fun x m => by
    simp only [List.mem_cons, List.not_mem_nil, or_false] at m
    rcases m with rfl | rfl | rfl
    · exact .inr (.inr ⟨_, rfl⟩)
    · exact .inl ⟨_, rfl⟩
    · exact .inl ⟨_, rfl⟩
  cases p with
  | shut w A B C =>
    obtain ⟨a, b, c, xs, ys, zs, hT, ha, hb, hc, ia, ib, ic⟩ := h
    refine .inr ⟨T, _, rfl, .inr hT, fun y m => ?_⟩
    simp only [List.mem_cons, List.not_mem_nil, or_false] at m
    rcases m with rfl | rfl | rfl | rfl | rfl
    · exact Pl.at0 (.inr (.inr ⟨_, rfl⟩)) 3
    · exact Pl.at0 (.inl ⟨_, rfl⟩) 3
    · exact (pl_al (n := 1) (fun v d h => pl_wd h) ha ia).nx
    · exact (pl_al (n := 1) (fun v d h => pl_wd h) hb ib).nx
    · exact pl_al (n := 2) (fun v d h => pl_md h) hc ic
  | ends n => exact two h
  | ring f l => exact three h
  | drift f l => exact three h
  | back d => exact two h
  | opn => exact pl_flat h fun x m => by rw [List.mem_singleton.mp m]; exact .inr (.inr ⟨_, rfl⟩)
theorem nodes_pl {F : Hp} {R S : Nat} {L : Addr} {xs : List NR} (hL : F L = some (.lst (xs.map fun x => V.ref x.T))) (ok : ∀ x ∈ xs, NROk F R S x) : Pl F 6 (.ref L) :=
  .inr ⟨L, _, rfl, .inl hL, fun v m => by
    obtain ⟨x, mx, rfl⟩ := List.mem_map.mp m
    have k := ok x mx
    refine .inr ⟨x.T, _, rfl, .inr k.tup, fun u mu => ?_⟩
    simp only [List.mem_cons, List.not_mem_nil, or_false] at mu
    rcases mu with rfl | rfl
    · exact k.mr.pl.nx
    · exact k.pap.pl⟩
/-- the kinds of papers of nodes -/
theorem NROk.kd {F : Hp} {R S : Nat} {x : NR} (h : NROk F R S x) {k : Nat} {c : Cfg} (go : Gone x.mr.M 200 k c) : (entOf x.mr.M c = .emp → x.p = .ends k) ∧ (entOf x.mr.M c ≠ .emp → (∀ n, x.p ≠ .ends n) ∧ x.p ≠ .opn ∧ x.p.ok x.mr.M R S ∧ x.p.small) := by
  obtain ⟨h1, h2⟩ := met_ends h.ok h.srt go
  refine ⟨h2, fun ne => ?_⟩
  have no : x.p ≠ .opn := fun z => by
    have em : metM x.mr.M = none := by rw [metM_of go, if_neg ne]
    have s := h.srt
    rw [z] at s
    exact h.met em s
  have gd := h.srt.good h.ok
  exact ⟨fun n e => ne (h1.mp ⟨n, e⟩), no, gd.ok no, gd.small⟩
theorem inV_not {p : Pap6} {a b : Str} (ha : ¬ p.kd.x = a) (hb : ¬ p.kd.x = b) : inV (.str p.kd.x) [.str a, .str b] = false := by
  cases e : inV (.str p.kd.x) [.str a, .str b] with
  | false => rfl
  | true =>
    obtain ⟨v, m, h⟩ := List.any_eq_true.mp e
    simp only [List.mem_cons, List.not_mem_nil, or_false] at m
    rcases m with rfl | rfl
    · exact absurd (Eq.symm (by simpa [eqV] using h)) ha
    · exact absurd (Eq.symm (by simpa [eqV] using h)) hb
theorem len_map {xs : List NR} {Ms : List Mach} (e : xs.map (fun x => x.mr.M) = Ms) : xs.length = Ms.length := by rw [← e, List.length_map]
theorem tits_len {R S N : Nat} (tok : TreeOk R S N) : ∀ {n : Nat}, n ≤ N → (tits R S n).2.length = n := by
  intro n
  induction n with
  | zero => intro _; rfl
  | succ n ih =>
    intro hn
    obtain ⟨M, hM⟩ := tok.node n (by omega)
    rw [tits_last hM.last]
    show ((tits R S n).2 ++ [M]).length = _
    rw [List.length_append, ih (by omega)]; rfl
/-! ### marks -/
theorem Cells.setAt {H F G : Hp} {A B C : List (Addr × List V)} {i : Nat} {a : Addr} {xs ys : List V} (h : Cells H F G (A ++ (B ++ C))) (hi : B[i]? = some (a, xs)) : Cells H F (L2.upd G a (.lst ys)) (A ++ (B.set i (a, ys) ++ C)) ∧ Ow H F G a (.lst xs) := by
  obtain ⟨l, e⟩ := List.getElem?_eq_some_iff.mp hi
  have eB : B = B.take i ++ (a, xs) :: B.drop (i + 1) := by rw [← e, ← List.drop_eq_getElem_cons l, List.take_append_drop]
  have eS : B.set i (a, ys) = B.take i ++ (a, ys) :: B.drop (i + 1) := List.set_eq_take_append_cons_drop.trans (if_pos l)
  have h2 : Cells H F G ((A ++ B.take i) ++ (a, xs) :: (B.drop (i + 1) ++ C)) := by
    rw [List.append_assoc, ← List.cons_append, ← List.append_assoc (B.take i), ← eB]; exact h
  refine ⟨?_, h2.at⟩
  have h3 := h2.upd (ys := ys)
  rw [List.append_assoc, ← List.cons_append, ← List.append_assoc (B.take i), ← eS] at h3
  exact h3
/-- the first i of them marked -/
def mkI (f : Nat → V) (i : Nat) (B : List (Addr × List V)) : List (Addr × List V) := B.mapIdx fun n q => if n < i then (q.1, q.2 ++ [f n]) else q
def mkA (f : Nat → V) (B : List (Addr × List V)) : List (Addr × List V) := B.mapIdx fun n q => (q.1, q.2 ++ [f n])
theorem mkI_zero {f : Nat → V} {B : List (Addr × List V)} : mkI f 0 B = B := by
  apply List.ext_getElem?
  intro n
  rw [mkI, List.getElem?_mapIdx]
  cases B[n]? with
  | none => rfl
  | some q => rfl
theorem mkI_get {f : Nat → V} {B : List (Addr × List V)} {i : Nat} {q : Addr × List V} (h : B[i]? = some q) : (mkI f i B)[i]? = some q := by
  rw [mkI, List.getElem?_mapIdx, h]
  show some (if i < i then _ else q) = some q
  rw [if_neg (Nat.lt_irrefl _)]
theorem mkI_set {f : Nat → V} {B : List (Addr × List V)} {i : Nat} {a : Addr} {xs : List V} (h : B[i]? = some (a, xs)) : (mkI f i B).set i (a, xs ++ [f i]) = mkI f (i + 1) B := by
  apply List.ext_getElem?
  intro n
  rw [List.getElem?_set]
  have l := (List.getElem?_eq_some_iff.mp h).1
  by_cases e : i = n
  · subst e
    rw [if_pos rfl, if_pos (by rw [mkI, List.length_mapIdx]; exact l), mkI, List.getElem?_mapIdx, h]
    show _ = some (if i < i + 1 then _ else _)
    rw [if_pos (Nat.lt_succ_self _)]
  · rw [if_neg e, mkI, mkI, List.getElem?_mapIdx, List.getElem?_mapIdx]
    cases B[n]? with
    | none => rfl
    | some q =>
      show some (if n < i then _ else _) = some (if n < i + 1 then _ else _)
      by_cases c : n < i
      · rw [if_pos c, if_pos (by omega)]
      · rw [if_neg c, if_neg (by omega)]
theorem mkI_all {f : Nat → V} {B : List (Addr × List V)} {i : Nat} (h : B.length ≤ i) : mkI f i B = mkA f B := by
  apply List.ext_getElem?
  intro n
  rw [mkI, mkA, List.getElem?_mapIdx, List.getElem?_mapIdx]
  cases e : B[n]? with
  | none => rfl
  | some q =>
    have l := (List.getElem?_eq_some_iff.mp e).1
    show some (if n < i then _ else _) = some _
    rw [if_pos (by omega)]
theorem mkA_get {f : Nat → V} {B : List (Addr × List V)} {i : Nat} {a : Addr} {xs : List V} (h : B[i]? = some (a, xs)) : (a, xs ++ [f i]) ∈ mkA f B := by
  refine List.mem_of_getElem? (i := i) ?_
  rw [mkA, List.getElem?_mapIdx, h]
  rfl
def rowV (j : Nat) : Nat → V := fun n => .int (10 * (j : Int) + (n : Int))
def NR.rws (x : NR) : List (Addr × List V) := x.mr.rs.zip x.mr.ess
/-- a node's lists, marked -/
def mkC (j : Nat) (x : NR) : List (Addr × List V) := (x.mr.m, x.mr.rs.map V.ref ++ [.int (j : Int)]) :: (mkA (rowV j) x.rws ++ mkA (fun _ => .int (j : Int)) x.pc)
def mkP (xs : List NR) (j : Nat) : List (Addr × List V) := ((xs.take j).mapIdx mkC).flatten
theorem mkP_next {xs : List NR} {j : Nat} {x : NR} (h : xs[j]? = some x) : mkP xs (j + 1) = mkP xs j ++ mkC j x := by
  have l := (List.getElem?_eq_some_iff.mp h).1
  rw [mkP, mkP, List.take_add_one, h]
  show ((xs.take j ++ [x]).mapIdx mkC).flatten = _
  rw [List.mapIdx_concat, List.flatten_concat, List.length_take, Nat.min_eq_left (Nat.le_of_lt l)]
theorem mkP_mem {xs : List NR} {j n : Nat} {x : NR} (h : xs[j]? = some x) (l : j < n) {q : Addr × List V} (m : q ∈ mkC j x) : q ∈ mkP xs n := by
  refine List.mem_flatten.mpr ⟨mkC j x, List.mem_of_getElem? (i := j) ?_, m⟩
  rw [List.getElem?_mapIdx, List.getElem?_take, if_pos l, h]
  rfl
def rest (xs : List NR) (j : Nat) : List (Addr × List V) := (xs.drop j).flatMap NR.cells
theorem rest_next {xs : List NR} {j : Nat} {x : NR} (h : xs[j]? = some x) : rest xs j = x.cells ++ rest xs (j + 1) := by
  obtain ⟨l, e⟩ := List.getElem?_eq_some_iff.mp h
  rw [rest, List.drop_eq_getElem_cons l, e, List.flatMap_cons]
  rfl
/-- what is no list stays while they may be changed -/
theorem FC.keep {F H : Hp} {C : List (Addr × List V)} {c : Addr} {o : HO} (h : FC F H C) (hc : F c = some o) (k : ∀ xs, o ≠ .lst xs) : delC C F c = some o := by
  rw [delC_of (fun z => ?_)]
  · exact hc
  · obtain ⟨q, mq, e⟩ := List.mem_map.mp z
    have e2 := (h.at' q mq).2
    rw [e, hc] at e2
    exact k _ (Option.some.inj e2)
theorem FC.keepT {F H : Hp} {C : List (Addr × List V)} {c : Addr} {xs : List V} (h : FC F H C) (hc : F c = some (.tup xs)) : delC C F c = some (.tup xs) := h.keep hc fun _ z => HO.noConfusion z
/-- no whole numbers -/
def NoI (F : Hp) (v : V) : Prop := ∃ c xs, v = .ref c ∧ F c = some (.tup xs)
/-- of a node, when its lists may be changed -/
structure NX (F : Hp) (R S : Nat) (x : NR) : Prop where
  tup : F x.T = some (.tup [.ref x.mr.m, .ref x.P])
  len : x.mr.rs.length = R
  row : ∀ (i : Nat) (r : Addr) (es : List V), x.rws[i]? = some (r, es) → x.mr.rs[i]? = some r ∧ es.length = S
  at' : ∀ (i : Nat) (r : Addr), x.mr.rs[i]? = some r → ∃ es, x.rws[i]? = some (r, es) ∧ es.length = S
  pap : (∃ ps, F x.P = some (.tup (.str x.p.kd.x :: ps)) ∧ x.p.kd.x ≠ "shut" ∧ x.pc = []) ∨ ∃ (w : Int) (a b c : Addr) (ys zs us : List V), F x.P = some (.tup [.str "shut", .int w, .ref a, .ref b, .ref c]) ∧ x.pc = [(a, ys), (b, zs), (c, us)] ∧ (∀ v ∈ ys, NoI F v) ∧ (∀ v ∈ zs, NoI F v) ∧ (∀ v ∈ us, NoI F v) ∧ ys.length ≤ 20000 ∧ zs.length ≤ 20000 ∧ us.length ≤ 20000
theorem NX.up {F F' : Hp} {R S : Nat} {x : NR} (h : NX F R S x) (s : Same F F') : NX F' R S x := by
  have no : ∀ {v}, NoI F v → NoI F' v := fun {v} ⟨c, xs, e, k⟩ => ⟨c, xs, e, s _ _ k⟩
  refine ⟨s _ _ h.tup, h.len, h.row, h.at', ?_⟩
  rcases h.pap with ⟨ps, e, k⟩ | ⟨w, a, b, c, ys, zs, us, e, e2, n1, n2, n3, l⟩
  · exact .inl ⟨ps, s _ _ e, k⟩
  · exact .inr ⟨w, a, b, c, ys, zs, us, s _ _ e, e2, fun v m => no (n1 v m), fun v m => no (n2 v m), fun v m => no (n3 v m), l⟩
theorem noI_all {F F' : Hp} {α : Type} [Dat α] {xs : List V} {l : List α} (al : IsAll F xs l) (k : ∀ (v : V) (d : α), Is F v d → ∃ c us, v = .ref c ∧ F c = some (.tup us)) (kp : ∀ c us, F c = some (.tup us) → F' c = some (.tup us)) : ∀ v ∈ xs, NoI F' v := fun v m => by
  obtain ⟨i, hi⟩ := List.getElem?_of_mem m
  obtain ⟨d, _, hd⟩ := al.get' hi
  obtain ⟨c, us, e, hc⟩ := k v d hd
  exact ⟨c, us, e, kp c us hc⟩
theorem NROk.nx {F H : Hp} {R S : Nat} {x : NR} {xs : List NR} (h : NROk F R S x) (fc : FC F H (xs.flatMap NR.cells)) (mx : x ∈ xs) : NX (delC (xs.flatMap NR.cells) F) R S x := by
  have lr : x.mr.rs.length = R := by rw [h.mr.len, h.mr.dat.1, h.ok.len]
  have z : ∀ (i : Nat) (r : Addr) (es : List V), x.rws[i]? = some (r, es) ↔ x.mr.rs[i]? = some r ∧ x.mr.ess[i]? = some es := fun i r es => by
    rw [NR.rws, List.getElem?_zip_eq_some]
  have le : ∀ (i : Nat) (es : List V), x.mr.ess[i]? = some es → es.length = S := fun i es hi => by
    obtain ⟨row, hr, al⟩ := h.mr.dat.get' hi
    rw [al.1]; exact h.ok.row row (List.mem_of_getElem? hr)
  refine ⟨fc.keepT h.tup, lr, fun i r es hi => ⟨((z i r es).mp hi).1, le i es ((z i r es).mp hi).2⟩, fun i r hi => ?_, ?_⟩
  · have il := (List.getElem?_eq_some_iff.mp hi).1
    have il2 : i < x.mr.ess.length := by rw [← h.mr.len]; exact il
    have he := List.getElem?_eq_getElem il2
    exact ⟨_, (z i r _).mpr ⟨hi, he⟩, le i _ he⟩
  have sm := (h.srt.good h.ok).small
  have mp : ∀ q ∈ x.pc, q ∈ xs.flatMap NR.cells := fun q m => List.mem_flatMap.mpr ⟨x, mx, List.mem_append_right _ m⟩
  have hp := h.pap
  have hc := h.pc
  cases ep : x.p with
  | shut w A B C =>
    rw [ep] at hp hc sm
    obtain ⟨a, b, c, ys, zs, us, hT, ha, hb, hc', ia, ib, ic⟩ := hp
    obtain ⟨a', b', c', ys', zs', us', hT', ec⟩ := hc
    rw [hT] at hT'
    injection hT' with hT'
    injection hT' with hT'
    injection hT' with _ hT'
    injection hT' with _ hT'
    injection hT' with e1 hT'
    injection hT' with e2 hT'
    injection hT' with e3 _
    cases e1
    cases e2
    cases e3
    have fa := (fc.at' (a, ys') (mp _ (by rw [ec]; simp))).2
    have fb := (fc.at' (b, zs') (mp _ (by rw [ec]; simp))).2
    have fc' := (fc.at' (c, us') (mp _ (by rw [ec]; simp))).2
    rw [show F (a, ys').1 = _ from ha] at fa
    rw [show F (b, zs').1 = _ from hb] at fb
    rw [show F (c, us').1 = _ from hc'] at fc'
    cases fa
    cases fb
    cases fc'
    refine .inr ⟨w, a, b, c, ys', zs', us', fc.keepT hT, ec, noI_all ia (fun v d h => ?_) (fun c us h => fc.keepT h), noI_all ib (fun v d h => ?_) (fun c us h => fc.keepT h), noI_all ic (fun v d h => ?_) (fun c us h => fc.keepT h), ?_, ?_, ?_⟩
    · obtain ⟨c, e, k⟩ := wd_ref h
      exact ⟨c, _, e, k⟩
    · obtain ⟨c, e, k⟩ := wd_ref h
      exact ⟨c, _, e, k⟩
    · obtain ⟨p, x0, x1, x2, x3, e, k, _⟩ := h
      exact ⟨p, _, e, k⟩
    · rw [ia.1]; exact sm.1
    · rw [ib.1]; exact sm.2.1
    · rw [ic.1]; exact sm.2.2.1
  | ends n =>
    rw [ep] at hp hc
    exact .inl ⟨_, fc.keepT hp, by show tEnds.x ≠ "shut"; decide +kernel, hc⟩
  | ring f l =>
    rw [ep] at hp hc
    exact .inl ⟨_, fc.keepT hp, by show tRing.x ≠ "shut"; decide +kernel, hc⟩
  | drift f l =>
    rw [ep] at hp hc
    exact .inl ⟨_, fc.keepT hp, by show tDrift.x ≠ "shut"; decide +kernel, hc⟩
  | back d =>
    rw [ep] at hp hc
    exact .inl ⟨_, fc.keepT hp, by show tBack.x ≠ "shut"; decide +kernel, hc⟩
  | opn =>
    rw [ep] at hp hc
    exact .inl ⟨_, fc.keepT hp, by show tOpen.x ≠ "shut"; decide +kernel, hc⟩
/-- slices -/
theorem cut_neg1 {xs : List V} {x : V} : cutV (xs ++ [x]) none (some (-1)) = xs := by
  have e1 : HT.sIx (xs ++ [x]).length 0 none = 0 := rfl
  have e2 : HT.sIx (xs ++ [x]).length (xs ++ [x]).length (some (-1)) = xs.length := by
    simp only [HT.sIx]
    rw [if_pos (by decide), List.length_append, List.length_singleton]
    omega
  unfold cutV
  rw [e1, e2, List.drop_zero, Nat.sub_zero]
  exact List.take_left ..
theorem cut_from {xs : List V} {x : V} {S : Nat} (l : xs.length = S) : cutV (xs ++ [x]) (some (S : Int)) none = [x] := by
  have e1 : HT.sIx (xs ++ [x]).length 0 (some (S : Int)) = xs.length := by
    simp only [HT.sIx]
    rw [if_neg (by omega), List.length_append, List.length_singleton, Int.toNat_natCast]
    omega
  have e2 : HT.sIx (xs ++ [x]).length (xs ++ [x]).length none = (xs ++ [x]).length := rfl
  unfold cutV
  rw [e1, e2, List.drop_left, List.length_append, Nat.add_sub_cancel_left]
  rfl
theorem sl_tail2 {K : PySem.W.Frag} {H : Hp} {a : Addr} {v : V} {ps : List V} {Q : VK} (h : SqT K H a (v :: ps)) (q : ∀ p, H p = none → Q (.ref p) (upd H p (.tup (cutV (v :: ps) (some 2) none)))) : rSlQ K (.ref a) (some 2) none H Q := by
  refine slA_cut h (fun w => ?_) q
  have w1 := w.1
  simp only [HT.sIx] at w1
  rw [if_neg (by decide), List.length_cons] at w1
  have : (2 : Int).toNat = 2 := rfl
  omega
/-! ### the law (printed by genk57.py) -/
theorem sizes4 {d : Int} (h0 : 0 ≤ d) (h1 : d < 4) : ∃ (j R S N : Nat), d = (j : Int) ∧ ([(2, 2), (1, 2), (1, 3), (1, 4)] : List (Nat × Nat))[j]? = some (R, S) ∧ 1 ≤ R ∧ R ≤ 4 ∧ 2 ≤ S ∧ S ≤ 4 ∧ R * S ≤ 4 ∧ N ≤ 1000 ∧ TreeOk R S N := by
  rcases (by omega : d = 0 ∨ d = 1 ∨ d = 2 ∨ d = 3) with rfl | rfl | rfl | rfl
  · exact ⟨0, 2, 2, 149, rfl, rfl, by decide, by decide, by decide, by decide, by decide, by decide, tree_22⟩
  · exact ⟨1, 1, 2, 3, rfl, rfl, by decide, by decide, by decide, by decide, by decide, by decide, tree_12⟩
  · exact ⟨2, 1, 3, 3, rfl, rfl, by decide, by decide, by decide, by decide, by decide, by decide, tree_13⟩
  · exact ⟨3, 1, 4, 3, rfl, rfl, by decide, by decide, by decide, by decide, by decide, by decide, tree_14⟩
theorem kd_open {p : Pap6} (h : p ≠ .opn) : decide (V.str p.kd.x = V.str "open") = false := by
  cases p with
  | opn => exact absurd rfl h
  | ends n => exact decide_eq_false (by show ¬ V.str tEnds.x = V.str "open"; decide +kernel)
  | ring f l => exact decide_eq_false (by show ¬ V.str tRing.x = V.str "open"; decide +kernel)
  | drift f l => exact decide_eq_false (by show ¬ V.str tDrift.x = V.str "open"; decide +kernel)
  | back d => exact decide_eq_false (by show ¬ V.str tBack.x = V.str "open"; decide +kernel)
  | shut w A B C => exact decide_eq_false (by show ¬ V.str tShut.x = V.str "open"; decide +kernel)
def sp_law (K : PySem.W.Frag) : Sp := fun vs H Q _ => ∃ (a : Addr) (ns : List Int), vs = [.ref a] ∧ SqL K H a (ns.map V.int) ∧ ns.length ≤ 63 ∧ ∀ H', Q (.bl true) H'
theorem ok_law (t : Tx K mg) : FnOk P w K mg base CX0 9 t.a_law t.fd_law ["_law_script"] (sp_law K) := by
  refine t.F_law.ok sc_law (fun vs H Q E h => ?_) (fun cdv A outer s H vs Q E hr h => ?_)
  · obtain ⟨a, ns, rfl, _⟩ := h
    rfl
  · obtain ⟨a, ns, rfl, hS, hn, q⟩ := h
    refine ⟨_, (pss_cons (ps_set (i := 1) sc_law.nd rfl (by first | exact Or.inl rfl | exact Or.inr rfl) (pe_call (ok_L_purse t) (hr.mono (by decide)) (by rfl) t.m_L_purse t.F_L_purse.kp t.b_L_purse .nil pass0 (pa_cons (pv 0) pa_nil)))
      (pss_cons (ps_asg (pe_ix ix_list (pe_lst (pa_cons (pe_tup (pa_cons pe_int (pa_cons pe_int pa_nil))) (pa_cons (pe_tup (pa_cons pe_int (pa_cons pe_int pa_nil))) (pa_cons (pe_tup (pa_cons pe_int (pa_cons pe_int pa_nil))) (pa_cons (pe_tup (pa_cons pe_int (pa_cons pe_int pa_nil))) pa_nil))))) (pe_call (ok_L_draw t) (hr.mono (by decide)) (by rfl) t.m_L_draw t.F_L_draw.kp t.b_L_draw .nil pass0 (pa_cons (pv 1) (pa_cons pe_int pa_nil))) (fun _ _ => rfl)) (pg_tup rfl (pgs_cons (pg_name (i := 2) sc_law.nd rfl (by first | exact Or.inl rfl | exact Or.inr rfl)) (pgs_cons (pg_name (i := 3) sc_law.nd rfl (by first | exact Or.inl rfl | exact Or.inr rfl)) pgs_nil))))
      (pss_cons (ps_set (i := 4) sc_law.nd rfl (by first | exact Or.inl rfl | exact Or.inr rfl) (pe_call (ok_L_draw t) (hr.mono (by decide)) (by rfl) t.m_L_draw t.F_L_draw.kp t.b_L_draw .nil pass0 (pa_cons (pv 1) (pa_cons pe_int pa_nil))))
      (pss_cons (ps_set (i := 5) sc_law.nd rfl (by first | exact Or.inl rfl | exact Or.inr rfl) (pe_call (ok_tree t) (hr.mono (by decide)) (by rfl) t.m_tree t.F_tree.kp t.b_tree .nil pass0 (pa_cons (pv 2) (pa_cons (pv 3) pa_nil))))
      (pss_cons (ps_set (i := 6) sc_law.nd rfl (by first | exact Or.inl rfl | exact Or.inr rfl) (pe_call (ok_L_nodes t) (hr.mono (by decide)) (by rfl) t.m_L_nodes t.F_L_nodes.kp t.b_L_nodes .nil pass0 (pa_cons (pv 2) (pa_cons (pv 3) pa_nil))))
      (pss_cons (ps_if (PW.pt (pw_or (pt_not (pt_val (pe_callB (id := "isinstance") call_isi (by rfl) t.n_isinstance (by decide +kernel) (pa_cons (pv 5) (pa_cons (pe_bltn (v := .ty "list") (by rfl) t.n_list (by decide +kernel) rfl) pa_nil))))) (pw_or1 (pt_not (pt_val (pe_call (ok_L_plainly t) (hr.mono (by decide)) (by rfl) t.m_L_plainly t.F_L_plainly.kp t.b_L_plainly .nil pass0 (pa_cons (pv 5) pa_nil))))))) (pss_one (ps_ret pe_bl)) pss_nil)
      (pss_cons (ps_if (pt_cmpR (op_neD hr.units) (pe_lc (own := [("_law_node", 7)]) (g := gName 7) (tt := tYes) rfl sc_law.nd (pi_list (pv 5)) (blkOk_by (N := N_law) (sc := defScope s_law) (by decide +kernel)) (fun _ _ _ _ _ => (pg_name (i := 7) sc_law.nd rfl (by first | exact Or.inl rfl | exact Or.inr rfl))) (fun _ _ _ _ _ => pts_nil) (fun _ _ _ _ _ => (pe_ix (ixK (K := K) (r := rIxT) rfl ix_tup) (pv 7) pe_int (fun _ _ => rfl)))) (pe_lc (own := [("_law_node", 7)]) (g := gName 7) (tt := tYes) rfl sc_law.nd (pi_list (pv 6)) (blkOk_by (N := N_law) (sc := defScope s_law) (by decide +kernel)) (fun _ _ _ _ _ => (pg_name (i := 7) sc_law.nd rfl (by first | exact Or.inl rfl | exact Or.inr rfl))) (fun _ _ _ _ _ => pts_nil) (fun _ _ _ _ _ => (pe_ix (ixK (K := K) (r := rIxT) rfl ix_tup) (pv 7) pe_int (fun _ _ => rfl)))) (nomark _)) (pss_one (ps_ret pe_bl)) pss_nil)
      (pss_cons (ps_for PassesOwn.never rfl (pi_enum (by rfl) t.n_enumerate (pa_cons (pv 5) pa_nil)) (pg_tup rfl (pgs_cons (pg_name (i := 8) sc_law.nd rfl (by first | exact Or.inl rfl | exact Or.inr rfl)) (pgs_cons (pg_tup rfl (pgs_cons (pg_name (i := 9) sc_law.nd rfl (by first | exact Or.inl rfl | exact Or.inr rfl)) (pgs_cons (pg_name (i := 10) sc_law.nd rfl (by first | exact Or.inl rfl | exact Or.inr rfl)) pgs_nil))) pgs_nil))) (pss_cons (ps_set (i := 11) sc_law.nd rfl (by first | exact Or.inl rfl | exact Or.inr rfl) (pe_ix ix_tup (pe_ix ix_list (pv 6) (pv 8) (fun _ _ => rfl)) pe_int (fun _ _ => rfl)))
      (pss_cons (ps_join (ps_if (PW.pt (pw_and (pt_cmpR op_notN (pv 11) pe_non (nomark _)) (pw_and1 (pt_cmpR (op_neD hr.units) (pv 10) (pe_tup (pa_cons pe_str (pa_cons (pe_ix ix_tup (pv 11) pe_int (fun _ _ => rfl)) pa_nil))) (nomark _))))) (pss_one (ps_ret pe_bl)) pss_nil))
      (pss_cons (ps_join (ps_if (PW.pt (pw_and (pt_cmpR op_isN (pv 11) pe_non (nomark _)) (pw_and1 (PW.pt (pw_or (pt_cmpR op_in_seq (pe_ix ix_tup (pv 10) pe_int (fun _ _ => rfl)) (pe_lst (pa_cons pe_str (pa_cons pe_str pa_nil))) (by rfl)) (pw_or1 (pt_cmpR op_isnot_bl (pe_call (ok_shows t) (hr.mono (by decide)) (by rfl) t.m_shows t.F_shows.kp t.b_shows .nil pass0 (pa_cons (pv 9) (pa_cons (pv 10) pa_nil))) pe_bl (nomark _)))))))) (pss_one (ps_ret pe_bl)) pss_nil))
      (pss_one (ps_if (pt_cmpR op_eq (pe_op op_mod (pv 8) pe_int) (pv 4) (nomark _)) (pss_cons (ps_set (i := 12) sc_law.nd rfl (by first | exact Or.inl rfl | exact Or.inr rfl) (pe_call (ok_sorted_as t) (hr.mono (by decide)) (by rfl) t.m_sorted_as t.F_sorted_as.kp t.b_sorted_as .nil pass0 (pa_cons (pv 9) pa_nil)))
      (pss_one (ps_if (PW.pt (pw_or (pt_cmpR (op_neD hr.units) (pe_ix ix_tup (pv 12) pe_int (fun _ _ => rfl)) (pe_ix ix_tup (pv 10) pe_int (fun _ _ => rfl)) (nomark _)) (pw_or1 (PW.pt (pw_and (pt_cmpR op_notIn_seq (pe_ix ix_tup (pv 10) pe_int (fun _ _ => rfl)) (pe_lst (pa_cons pe_str (pa_cons pe_str pa_nil))) (by rfl)) (pw_and1 (pt_cmpR (op_neD hr.units) (pv 12) (pv 10) (nomark _)))))))) (pss_one (ps_ret pe_bl)) pss_nil))) pss_nil))))))
      (pss_cons (ps_for PassesOwn.never rfl (pi_enum (by rfl) t.n_enumerate (pa_cons (pv 5) pa_nil)) (pg_tup rfl (pgs_cons (pg_name (i := 8) sc_law.nd rfl (by first | exact Or.inl rfl | exact Or.inr rfl)) (pgs_cons (pg_tup rfl (pgs_cons (pg_name (i := 9) sc_law.nd rfl (by first | exact Or.inl rfl | exact Or.inr rfl)) (pgs_cons (pg_name (i := 10) sc_law.nd rfl (by first | exact Or.inl rfl | exact Or.inr rfl)) pgs_nil))) pgs_nil))) (pss_cons (ps_for PassesOwn.never rfl (pi_enum (by rfl) t.n_enumerate (pa_cons (pv 9) pa_nil)) (pg_tup rfl (pgs_cons (pg_name (i := 13) sc_law.nd rfl (by first | exact Or.inl rfl | exact Or.inr rfl)) (pgs_cons (pg_name (i := 14) sc_law.nd rfl (by first | exact Or.inl rfl | exact Or.inr rfl)) pgs_nil))) (pss_one (ps_expr (pe_bm PySem.F.plainAttrs_list PySem.F.slot_list_append PySem.F.type_list_append mt_append (pv 14) (pa_cons (pe_op op_add (pe_op op_mul pe_int (pv 8)) (pv 13)) pa_nil)))))
      (pss_cons (ps_expr (pe_bm PySem.F.plainAttrs_list PySem.F.slot_list_append PySem.F.type_list_append mt_append (pv 9) (pa_cons (pv 8) pa_nil)))
      (pss_one (ps_for PassesOwn.never rfl (pi_tup (pe_slice sl_tupQ (pv 10) (po_some pe_int) po_none)) (pg_name (i := 15) sc_law.nd rfl (by first | exact Or.inl rfl | exact Or.inr rfl)) (pss_one (ps_join (ps_if (pt_cmpR op_eq (pe_ix ix_tup (pv 10) pe_int (fun _ _ => rfl)) pe_str (nomark _)) (pss_one (ps_expr (pe_bm PySem.F.plainAttrs_list PySem.F.slot_list_append PySem.F.type_list_append mt_append (pv 15) (pa_cons (pv 8) pa_nil)))) pss_nil))))))))
      (pss_cons (ps_for PassesOwn.never rfl (pi_enum (by rfl) t.n_enumerate (pa_cons (pv 5) pa_nil)) (pg_tup rfl (pgs_cons (pg_name (i := 8) sc_law.nd rfl (by first | exact Or.inl rfl | exact Or.inr rfl)) (pgs_cons (pg_tup rfl (pgs_cons (pg_name (i := 9) sc_law.nd rfl (by first | exact Or.inl rfl | exact Or.inr rfl)) (pgs_cons (pg_name (i := 10) sc_law.nd rfl (by first | exact Or.inl rfl | exact Or.inr rfl)) pgs_nil))) pgs_nil))) (pss_cons (ps_join (ps_if (pt_cmpR op_eq (pe_ix ix_tup (pv 10) pe_int (fun _ _ => rfl)) pe_str (nomark _)) (pss_one (ps_for PassesOwn.never rfl (pi_tup (pe_slice sl_tupQ (pv 10) (po_some pe_int) po_none)) (pg_name (i := 15) sc_law.nd rfl (by first | exact Or.inl rfl | exact Or.inr rfl)) (pss_one (ps_if (pt_cmpR (op_neD hr.units) (pe_lc (own := [("_law_one", 16)]) (g := gName 16) rfl sc_law.nd (pi_list (pv 15)) (blkOk_by (N := N_law) (sc := defScope s_law) (by decide +kernel)) (fun _ _ _ _ _ => (pg_name (i := 16) sc_law.nd rfl (by first | exact Or.inl rfl | exact Or.inr rfl))) (fun _ _ _ _ _ => (pts_one (pt_val (pe_callB (id := "isinstance") (crK (K := K) (r := rIsi) rfl call_isi) (by rfl) t.n_isinstance (by decide +kernel) (pa_cons (pv 16) (pa_cons (pe_bltn (v := .ty "int") (by rfl) t.n_int (by decide +kernel) rfl) pa_nil)))))) (fun _ _ _ _ _ => (pv 16))) (pe_lst (pa_cons (pv 8) pa_nil)) (nomark _)) (pss_one (ps_ret pe_bl)) pss_nil)))) pss_nil))
      (pss_cons (ps_setLc (i := 17) (own := [("_law_entries", 14)]) (g := gName 14) (tt := tYes) rfl sc_law.nd rfl rfl (sw_true rfl rfl rfl (by decide +kernel)) (pi_list (pe_slice sl_list (pv 9) po_none (po_some (pe_un un_neg pe_int)))) (blkOk_by (N := N_law) (sc := defScope s_law) (by decide +kernel)) (fun _ _ _ _ _ => (pg_name (i := 14) sc_law.nd rfl (by first | exact Or.inl rfl | exact Or.inr rfl))) (fun _ _ _ _ _ => pts_nil) (fun _ _ _ _ _ => (pe_slice (slK (K := K) (r := rSlL) rfl sl_list) (pv 14) (po_some (pv 3)) po_none)))
      (pss_one (ps_if (PW.pt (pw_or (pt_cmpR op_ne (pe_ix ix_list (pv 9) (pe_un un_neg pe_int) (fun _ _ => rfl)) (pv 8) (nomark _)) (pw_or1 (pt_cmpR (op_neD hr.units) (pv 17) (pe_lc (own := [("_law_row", 13)]) (g := gName 13) (tt := tYes) rfl sc_law.nd (pi_range1 (by rfl) t.n_range (pa_cons (pv 2) pa_nil)) (blkOk_by (N := N_law) (sc := defScope s_law) (by decide +kernel)) (fun _ _ _ _ _ => (pg_name (i := 13) sc_law.nd rfl (by first | exact Or.inl rfl | exact Or.inr rfl))) (fun _ _ _ _ _ => pts_nil) (fun _ _ _ _ _ => (pe_lst (pa_cons (pe_op op_add (pe_op op_mul pe_int (pv 8)) (pv 13)) pa_nil)))) (nomark _))))) (pss_one (ps_ret pe_bl)) pss_nil)))))
      (pss_one (ps_ret (pe_cmpR (op_eqD hr.units) (pe_lc (own := [("_law_node", 7)]) (g := gName 7) (tt := tYes) rfl sc_law.nd (pi_list (pe_call (ok_tree t) (hr.mono (by decide)) (by rfl) t.m_tree t.F_tree.kp t.b_tree .nil pass0 (pa_cons pe_int (pa_cons pe_int pa_nil)))) (blkOk_by (N := N_law) (sc := defScope s_law) (by decide +kernel)) (fun _ _ _ _ _ => (pg_name (i := 7) sc_law.nd rfl (by first | exact Or.inl rfl | exact Or.inr rfl))) (fun _ _ _ _ _ => pts_nil) (fun _ _ _ _ _ => (pe_ix (ixK (K := K) (r := rIxT) rfl ix_tup) (pv 7) pe_int (fun _ _ => rfl)))) (pe_lc (own := [("_law_node", 7)]) (g := gName 7) (tt := tYes) rfl sc_law.nd (pi_list (pe_call (ok_L_nodes t) (hr.mono (by decide)) (by rfl) t.m_L_nodes t.F_L_nodes.kp t.b_L_nodes .nil pass0 (pa_cons pe_int (pa_cons pe_int pa_nil)))) (blkOk_by (N := N_law) (sc := defScope s_law) (by decide +kernel)) (fun _ _ _ _ _ => (pg_name (i := 7) sc_law.nd rfl (by first | exact Or.inl rfl | exact Or.inr rfl))) (fun _ _ _ _ _ => pts_nil) (fun _ _ _ _ _ => (pe_ix (ixK (K := K) (r := rIxT) rfl ix_tup) (pv 7) pe_int (fun _ _ => rfl)))) (nomark _)))))))))))))), ?_⟩
    refine ⟨_, rfl, a, ns, rfl, hS, hn, fun a0 b0 p H1 ha0 hb0 s1 np hp1 => ?_⟩
    have g : Gr (muP p) H H1 H H1 := Gr.refl s1
    refine ⟨two_le, fun t0 nt0 => ?_⟩
    obtain ⟨F0, g0, ht0, s0x, _⟩ := g.newE (o := .tup [.int 2, .int 2]) nt0
    have hp0x := ln (u := .tup [.int 2, .int 2]) nt0 hp1
    generalize upd H1 t0 (.tup [.int 2, .int 2]) = K0 at g0 hp0x ⊢
    refine ⟨two_le, fun t1 nt1 => ?_⟩
    obtain ⟨F1, g1, ht1, s1x, _⟩ := g0.newE (o := .tup [.int 1, .int 2]) nt1
    have ht0 := s1x _ _ ht0
    have hp1x := ln (u := .tup [.int 1, .int 2]) nt1 hp0x
    generalize upd K0 t1 (.tup [.int 1, .int 2]) = K1 at g1 hp1x ⊢
    refine ⟨two_le, fun t2 nt2 => ?_⟩
    obtain ⟨F2, g2, ht2, s2x, _⟩ := g1.newE (o := .tup [.int 1, .int 3]) nt2
    have ht0 := s2x _ _ ht0
    have ht1 := s2x _ _ ht1
    have hp2x := ln (u := .tup [.int 1, .int 3]) nt2 hp1x
    generalize upd K1 t2 (.tup [.int 1, .int 3]) = K2 at g2 hp2x ⊢
    refine ⟨two_le, fun t3 nt3 => ?_⟩
    obtain ⟨F3, g3, ht3, s3x, _⟩ := g2.newE (o := .tup [.int 1, .int 4]) nt3
    have ht0 := s3x _ _ ht0
    have ht1 := s3x _ _ ht1
    have ht2 := s3x _ _ ht2
    have hp3x := ln (u := .tup [.int 1, .int 4]) nt3 hp2x
    generalize upd K2 t3 (.tup [.int 1, .int 4]) = K3 at g3 hp3x ⊢
    refine ⟨le_size (by show 4 ≤ 1000000; decide), fun t4 nt4 => ?_⟩
    obtain ⟨F4, g4, ht4, s4x, _⟩ := g3.newE (o := .lst [.ref t0, .ref t1, .ref t2, .ref t3]) nt4
    have ht0 := s4x _ _ ht0
    have ht1 := s4x _ _ ht1
    have ht2 := s4x _ _ ht2
    have ht3 := s4x _ _ ht3
    have hp4x := ln (u := .lst [.ref t0, .ref t1, .ref t2, .ref t3]) nt4 hp3x
    generalize upd K3 t4 (.lst [.ref t0, .ref t1, .ref t2, .ref t3]) = K4 at g4 hp4x ⊢
    refine ⟨_, rfl, p, a0, b0, 4, rfl, hp4x, ha0, hb0, by decide, by decide, fun d a1 b1 d0 d1 ha1 hb1 => ?_⟩
    obtain ⟨g5, _⟩ := g4.drw (a := a1) (b := b1) np hp1
    have hp5 : (upd K4 p (PurseO a1 b1)) p = some (PurseO a1 b1) := upd_same
    generalize upd K4 p (PurseO a1 b1) = K5 at g5 hp5 ⊢
    obtain ⟨j, R, S, N, rfl, hj, R1, R4, S2, S4, RS, N1, tok⟩ := sizes4 d0 d1
    obtain ⟨tz, hz, htz⟩ : ∃ tz : Addr, [V.ref t0, V.ref t1, V.ref t2, V.ref t3][j]? = some (.ref tz) ∧ F4 tz = some (.tup [.int R, .int S]) := by
      rcases (by omega : j = 0 ∨ j = 1 ∨ j = 2 ∨ j = 3) with rfl | rfl | rfl | rfl <;> cases hj
      · exact ⟨t0, rfl, ht0⟩
      · exact ⟨t1, rfl, ht1⟩
      · exact ⟨t2, rfl, ht2⟩
      · exact ⟨t3, rfl, ht3⟩
    refine ⟨t4, _, _, _, rfl, rfl, SqL.of (g5.fh _ _ ht4), atI_nat (j := j) hz, tz, _, rfl, SqT.of (g5.fh _ _ htz), rfl, _, _, rfl, _, _, rfl, rfl, ?_⟩
    refine ⟨_, rfl, p, a1, b1, 3, rfl, hp5, ha1, hb1, by decide, by decide, fun way a2 b2 w0 w1 ha2 hb2 => ?_⟩
    obtain ⟨g6, _⟩ := g5.drw (a := a2) (b := b2) np hp1
    generalize upd K5 p (PurseO a2 b2) = K6 at g6 ⊢
    clear ht0 ht1 ht2 ht3 ht4 hz htz hp5 hp4x hp3x hp2x hp1x hp0x g0 g1 g2 g3 g4 g5 hj
    -- the trees
    refine ⟨_, rfl, _, rfl, F4, R, S, N, rfl, g6.fh, RS, R1, R4, S2, S4, N1, tok, fun F7 H7 L xs g7 hL exs okx fc nL => ?_⟩
    have g8 := g6.trans g7.of0
    refine ⟨_, rfl, _, rfl, F7, R, S, N, rfl, g7.fh, R1, R4, S2, S4, N1, tok, fun F9 H9 Ld us g9 hLd dus => ?_⟩
    have g10 := g8.trans g9.of0
    have hL := g9.ff _ _ hL
    have okx : ∀ x ∈ xs, NROk F9 R S x := fun x m => (okx x m).up g9.ff
    have fc := fc.up g9.ff
    have lxs := len_map exs
    have lN : ∀ {i : Nat}, i < xs.length → xs.length ≤ 1000 := fun _ => by rw [lxs, tits_len tok (Nat.le_refl N)]; exact N1
    have lus : us.length = xs.length := dus.1.trans lxs.symm
    have hLG := g9.fh _ _ hL
    refine ⟨_, rfl, _, _, _, _, true, rfl, .ty "list", .base (.lst hLG), kt_list, _, rfl, ifF rfl ?_⟩
    refine ⟨_, rfl, F9, .ref L, rfl, g9.fh, nodes_pl hL okx, fun H10 g11 => ⟨true, rfl, ifF rfl ?_⟩⟩
    -- the machines are the same
    refine ⟨_, rfl, L, rfl, ⟨_, SqL.of (g11.fh _ _ hL)⟩, fun D nD => lc_list (K := K) (a := L) (xs := xs.map fun x => V.ref x.T) (fun i G => ∃ ws : List V, Gr mu0 F9 H9 F9 G ∧ Ow H9 F9 G D (.lst ws) ∧ IsAll F9 ws ((xs.take i).map fun x => x.mr.M))
      ⟨[], g11.own nD, Ow.mk1 g11 nD, All2.nil⟩ (fun i G _ ⟨_, g, _⟩ => SqL.of (g.fh _ _ hL)) ?_ ?_⟩
    · rintro i v G hi ⟨ws, g, wD, al⟩
      rw [List.getElem?_map] at hi
      obtain ⟨x, hx, rfl⟩ := Option.map_eq_some_iff.mp hi
      have k := okx x (List.mem_of_getElem? hx)
      have il := (List.getElem?_eq_some_iff.mp hx).1
      refine ⟨rfl, yes ⟨_, rfl, x.T, _, _, _, rfl, rfl, SqT.of (g.fh _ _ k.tup), atI_nat (j := 0) rfl, ws, wD.h, by rw [al.1, List.length_map, List.length_take]; exact lt_size (by have := lN il; omega), ws ++ [.ref x.mr.m], g.set wD.f (.inl wD.n), wD.set, ?_⟩⟩
      rw [List.take_add_one, hx, List.map_append]
      exact al.app (All2.one k.mr.is)
    rintro G12 ⟨ws, g12, wD, al⟩
    rw [List.length_map, List.take_length] at al
    refine ⟨_, rfl, Ld, rfl, ⟨_, SqL.of (g12.fh _ _ hLd)⟩, fun D2 nD2 => lc_list (K := K) (a := Ld) (xs := us) (fun i G => ∃ ws2 : List V, Gr mu0 F9 H9 F9 G ∧ Ow H9 F9 G D (.lst ws) ∧ Ow H9 F9 G D2 (.lst ws2) ∧ IsAll F9 ws2 (((tits R S N).2).take i) ∧ D ≠ D2)
      ⟨[], g12.own nD2, wD.own nD2, Ow.mk1 g12 nD2, All2.nil, ne_of_none wD.h nD2⟩ (fun i G _ ⟨_, g, _⟩ => SqL.of (g.fh _ _ hLd)) ?_ ?_⟩
    · rintro i v G hi ⟨ws2, g, wD, wD2, al2, DD⟩
      obtain ⟨M, hM, T, mv, qv, rfl, hT, iM, _⟩ := dus.get' hi
      have il := (List.getElem?_eq_some_iff.mp hi).1
      refine ⟨rfl, yes ⟨_, rfl, T, _, _, _, rfl, rfl, SqT.of (g.fh _ _ hT), atI_nat (j := 0) rfl, ws2, wD2.h, by rw [al2.1, List.length_take]; exact lt_size (by rw [lus] at il; have := lN il; omega), ws2 ++ [mv], g.set wD2.f (.inl wD2.n), wD.other DD, wD2.set, ?_, DD⟩⟩
      rw [List.take_add_one, hM]
      exact al2.app (All2.one iM)
    rintro G13 ⟨ws2, g13, wD, wD2, al2, DD⟩
    rw [dus.1, List.take_length] at al2
    rw [exs] at al
    refine ne_dat (a := (tits R S N).2) (b := (tits R S N).2) ⟨D, ws, rfl, wD.h, IsAll.up al g13.fh⟩ ⟨D2, ws2, rfl, wD2.h, IsAll.up al2 g13.fh⟩ ⟨_, rfl, ifF (by rw [decide_eq_true rfl]; rfl) ?_⟩
    have gk : Gr mu0 F4 K6 F9 G13 := g7.trans (g9.trans g13)
    clear wD wD2 al al2 DD g13 g12 g11 hLG
    clear nD nD2 g10 g8 g9 g7
    -- each node
    refine ⟨_, rfl, L, _, rfl, SqL.of (gk.fh _ _ hL), for_it walk_enum (fun j σ G => ∃ (F1 : Hp) (v8 v9 v10 v11 v12 v13 v14 v15 v17 : Option V), σ = [some (.ref a), some (.ref p), some (.int R), some (.int S), some (.int way), some (.ref L), some (.ref Ld), none, v8, v9, v10, v11, v12, v13, v14, v15, none, v17] ∧ Gr mu0 F4 K6 F1 G ∧ Same F9 F1)
      ⟨F9, _, _, _, _, _, _, _, _, _, rfl, gk, Same.refl F9⟩ (fun j σ G _ ⟨F1, _, _, _, _, _, _, _, _, _, _, g, s⟩ => SqL.of (g.fh _ _ (s _ _ hL))) ?_ ?_⟩
    · rintro j pr σ U U' hj ⟨F1, v8, v9, v10, v11, v12, v13, v14, v15, v17, rfl, g, sF⟩ ⟨T, x0, z0, rfl, nT, rfl, ex0, ey0⟩
      have ex0 : x0 = .int (j : Nat) := (Option.some.inj ex0).symm
      subst ex0
      obtain ⟨x, hx, rfl⟩ : ∃ x, xs[j]? = some x ∧ z0 = .ref x.T := by
        have ey0 : (xs.map fun x => V.ref x.T)[j]? = some z0 := ey0
        rw [List.getElem?_map] at ey0
        obtain ⟨x, h, e⟩ := Option.map_eq_some_iff.mp ey0
        exact ⟨x, h, e.symm⟩
      have jl := (List.getElem?_eq_some_iff.mp hx).1
      have k := (okx x (List.mem_of_getElem? hx)).up sF
      obtain ⟨v, hv⟩ : ∃ v, us[j]? = some v := ⟨_, List.getElem?_eq_getElem (by omega)⟩
      obtain ⟨M, hM, DT, mv, qv, rfl, hDT, iM, mt⟩ := dus.get' hv
      have eM : M = x.mr.M := by
        rw [← exs, List.getElem?_map, hx] at hM
        exact (Option.some.inj hM).symm
      subst eM
      have mt := mt.up sF
      have go := goN_gone (M := x.mr.M) (m := 200) 200 0 c0 rfl rfl
      generalize (goN x.mr.M 200 0 c0).1 = kk at go
      generalize (goN x.mr.M 200 0 c0).2 = cc at go
      have mt := mt kk cc go
      have kd := k.kd go
      have g1 := g.own (o := .tup [.int (j : Nat), .ref x.T]) nT
      have hT : (upd U T (.tup [.int (j : Nat), .ref x.T])) T = some (.tup [.int (j : Nat), .ref x.T]) := upd_same
      generalize upd U T (.tup [.int (j : Nat), .ref x.T]) = U1 at g1 hT ⊢
      refine ⟨T, _, rfl, SqT.of hT, rfl, _, _, rfl, _, _, rfl, ⟨x.T, _, rfl, SqT.of (g1.fh _ _ k.tup), rfl, _, _, rfl, _, _, rfl, rfl, rfl, ?_⟩⟩
      refine ⟨_, rfl, _, rfl, Ld, _, _, _, rfl, rfl, SqL.of (g1.fh _ _ (sF _ _ hLd)), atI_nat hv, DT, _, _, _, rfl, rfl, SqT.of (g1.fh _ _ (sF _ _ hDT)), atI_nat (j := 1) rfl, ?_⟩
      obtain ⟨ps, hps⟩ := k.pap.tup
      refine ⟨fun σ' H' => ∃ F2 : Hp, σ' = [some (.ref a), some (.ref p), some (.int R), some (.int S), some (.int way), some (.ref L), some (.ref Ld), none, (some (.int (j : Nat))), (some (.ref x.mr.m)), (some (.ref x.P)), (some qv), v12, v13, v14, v15, none, v17] ∧ Gr mu0 F4 K6 F2 H' ∧ Same F1 F2, ?_, ?_⟩
      · rcases mt with ⟨ne, rfl⟩ | ⟨e, QT, dv, rfl, hQT⟩
        · exact ⟨_, rfl, rfl, _, rfl, ifF rfl (ifF rfl ⟨F1, rfl, g1, Same.refl F1⟩)⟩
        · have ep := kd.1 e
          have hP := k.pap
          rw [ep] at hP
          refine ⟨_, rfl, rfl, _, rfl, ifT (by rw [decide_eq_false (fun z => V.noConfusion z)]; rfl) ⟨_, rfl, _, rfl, QT, _, _, _, rfl, rfl, SqT.of (g1.fh _ _ hQT), atI_nat (j := 0) rfl, two_le, fun t nt => ?_⟩⟩
          obtain ⟨F2, g2, ht, s2, _⟩ := g1.newE (o := .tup [.str "ends", .int kk]) nt
          exact ne_dat (a := (⟨tEnds, kk⟩ : T2 TStr Int)) (b := ⟨tEnds, kk⟩) ⟨_, _, _, rfl, g2.fh _ _ (s2 _ _ hP), rfl, rfl⟩ ⟨t, _, _, rfl, g2.fh _ _ ht, rfl, rfl⟩ ⟨_, rfl, ifF (by rw [decide_eq_true rfl]; rfl) ⟨F2, rfl, g2, s2⟩⟩
      rintro σ' U2 ⟨F2, rfl, g2, s2⟩
      have hps2 := s2 _ _ hps
      refine ⟨fun σ' H' => ∃ F3 : Hp, σ' = [some (.ref a), some (.ref p), some (.int R), some (.int S), some (.int way), some (.ref L), some (.ref Ld), none, (some (.int (j : Nat))), (some (.ref x.mr.m)), (some (.ref x.P)), (some qv), v12, v13, v14, v15, none, v17] ∧ Gr mu0 F4 K6 F3 H' ∧ Same F2 F3, ?_, ?_⟩
      · rcases mt with ⟨ne, rfl⟩ | ⟨e, QT, dv, rfl, hQT⟩
        · obtain ⟨k1, k2, k3, k4⟩ := kd.2 ne
          refine ⟨_, rfl, rfl, _, rfl, ifT rfl ⟨_, rfl, x.P, _, _, _, rfl, rfl, SqT.of (g2.fh _ _ hps2), atI_nat (j := 0) rfl, two_le, fun l nl => ?_⟩⟩
          have g3 := g2.own (o := .lst [.str "ends", .str "open"]) nl
          refine ⟨l, _, rfl, .inl (SqL.of upd_same), rfl, rfl, _, rfl, ifF (inV_not (fun z => ?_) (fun z => ?_)) ?_⟩
          · obtain ⟨n, hn⟩ := kd_ends.mp (congrArg V.str z)
            exact k1 n hn
          · exact absurd (congrArg V.str z) (of_decide_eq_false (kd_open k2))
          refine ⟨_, rfl, _, rfl, F2, _, x.mr.M, R, S, x.P, x.p, rfl, g3.fh, (k.up s2).mr.is, k.ok, (k.up s2).pap, k4, fun F3 H3 r g4 hr => ⟨r, true, rfl, rfl, _, rfl, ?_⟩⟩
          have er : r = true := hr.mpr k3
          subst er
          exact ifF rfl ⟨F3, rfl, g3.trans g4, g4.ff⟩
        · exact ⟨_, rfl, rfl, _, rfl, ifF (by rw [decide_eq_false (fun z => V.noConfusion z)]) (ifF rfl ⟨F2, rfl, g2, Same.refl F2⟩)⟩
      rintro σ' U3 ⟨F3, rfl, g3, s3⟩
      have hps3 := s3 _ _ hps2
      have k3 := (k.up s2).up s3
      have sF3 : Same F9 F3 := sF.trans (s2.trans s3)
      refine ⟨_, rfl, _, _, rfl, rfl, by show (0 : Int) < 3; decide, _, rfl, rfl, _, rfl, ite2 (fun _ => ?_) (fun _ => ⟨F3, _, _, _, _, _, _, _, _, _, rfl, g3, sF3⟩)⟩
      refine ⟨_, rfl, ?_⟩
      dsimp only [tCons, tNil, tC]
      refine sortedA_sp (F := F3) g3.fh k3.mr.is k3.ok fun q qc F4' H4 OT sq g4 hq pcq fcq => ?_
      have eq : q = x.p := sq.eq k.ok k.srt
      subst eq
      have g5 := g3.trans g4
      have sF4 : Same F9 F4' := sF3.trans g4.ff
      obtain ⟨qs, hqs⟩ := hq.tup
      have hps4 := g4.ff _ _ hps3
      have ed : ∀ {K : PySem.W.Frag} {Q : VK}, Q (.bl false) H4 → rNeD K (.str x.p.kd.x) (.str x.p.kd.x) H4 Q := fun {K Q} z => ne_dat (a := x.p.kd) (b := x.p.kd) rfl rfl (by rw [decide_eq_true rfl]; exact z)
      refine ⟨_, rfl, OT, _, _, _, rfl, rfl, SqT.of (g5.fh _ _ hqs), atI_nat (j := 0) rfl, _, rfl, x.P, _, _, _, rfl, rfl, SqT.of (g5.fh _ _ hps4), atI_nat (j := 0) rfl, ed ⟨_, rfl, ifF rfl ?_⟩⟩
      refine ⟨_, rfl, x.P, _, _, _, rfl, rfl, SqT.of (g5.fh _ _ hps4), atI_nat (j := 0) rfl, two_le, fun l nl => ?_⟩
      have g6 := g5.own (o := .lst [.str "ring", .str "drift"]) nl
      refine ⟨l, _, rfl, .inl (SqL.of upd_same), rfl, rfl, _, rfl, ?_⟩
      have fin : ∃ (F1 : Hp) (w8 w9 w10 w11 w12 w13 w14 w15 w17 : Option V), [some (.ref a), some (.ref p), some (.int R), some (.int S), some (.int way), some (.ref L), some (.ref Ld), none, (some (.int (j : Nat))), (some (.ref x.mr.m)), (some (.ref x.P)), (some qv), (some (.ref OT)), v13, v14, v15, none, v17] = [some (.ref a), some (.ref p), some (.int R), some (.int S), some (.int way), some (.ref L), some (.ref Ld), none, w8, w9, w10, w11, w12, w13, w14, w15, none, w17] ∧ Gr mu0 F4 K6 F1 _ ∧ Same F9 F1 := ⟨F4', _, _, _, _, _, _, _, _, _, rfl, g6, sF4⟩
      refine ite2 (fun _ => ⟨_, rfl, _, rfl, ne_pap (hq.up g6.fh) ((k3.up g4.ff).pap.up g6.fh) ⟨_, rfl, ifF rfl fin⟩⟩) (fun _ => ifF rfl fin)
    rintro σ G14 ⟨F14, v8, v9, v10, v11, v12, v13, v14, v15, v17, rfl, g15, s15⟩
    have fc14 := fc.up s15
    obtain ⟨gt, cl⟩ := fc14.thaw g15 g6.fh
    have nx : ∀ x ∈ xs, NX (delC (xs.flatMap NR.cells) F14) R S x := fun x m => ((okx x m).up s15).nx fc14 m
    have hLt : delC (xs.flatMap NR.cells) F14 L = some (.lst (xs.map fun x => V.ref x.T)) := by
      rw [delC_of (fun z => ?_)]
      · exact s15 _ _ hL
      · obtain ⟨q, mq, e⟩ := List.mem_map.mp z
        exact nL q mq e
    generalize delC (xs.flatMap NR.cells) F14 = E14 at gt cl nx hLt
    clear fc14 g15 s15 fc okx
    have cl0 : Cells K6 E14 G14 (mkP xs 0 ++ rest xs 0) := cl
    clear cl
    -- the marks
    refine ⟨_, rfl, L, _, rfl, SqL.of (gt.fh _ _ hLt), for_it walk_enum (fun j σ G => ∃ (v8 v9 v10 v11 v12 v13 v14 v15 v17 : Option V), σ = [some (.ref a), some (.ref p), some (.int R), some (.int S), some (.int way), some (.ref L), some (.ref Ld), none, v8, v9, v10, v11, v12, v13, v14, v15, none, v17] ∧ Gr mu0 F4 K6 E14 G ∧ Cells K6 E14 G (mkP xs j ++ rest xs j))
      ⟨_, _, _, _, _, _, _, _, _, rfl, gt, cl0⟩ (fun j σ G _ ⟨_, _, _, _, _, _, _, _, _, _, g, _⟩ => SqL.of (g.fh _ _ hLt)) ?_ ?_⟩
    · rintro j pr σ U U' hj ⟨v8, v9, v10, v11, v12, v13, v14, v15, v17, rfl, g, cl⟩ ⟨T, x0, z0, rfl, nT, rfl, ex0, ey0⟩
      have ex0 : x0 = .int (j : Nat) := (Option.some.inj ex0).symm
      subst ex0
      obtain ⟨x, hx, rfl⟩ : ∃ x, xs[j]? = some x ∧ z0 = .ref x.T := by
        have ey0 : (xs.map fun x => V.ref x.T)[j]? = some z0 := ey0
        rw [List.getElem?_map] at ey0
        obtain ⟨x, h, e⟩ := Option.map_eq_some_iff.mp ey0
        exact ⟨x, h, e.symm⟩
      have k := nx x (List.mem_of_getElem? hx)
      have g1 := g.own (o := .tup [.int (j : Nat), .ref x.T]) nT
      have cl := cl.gr0 ((Gr.refl (mu := mu0) g.fh).own (o := .tup [.int (j : Nat), .ref x.T]) nT)
      have hT : (upd U T (.tup [.int (j : Nat), .ref x.T])) T = some (.tup [.int (j : Nat), .ref x.T]) := upd_same
      generalize upd U T (.tup [.int (j : Nat), .ref x.T]) = U1 at g1 cl hT ⊢
      refine ⟨T, _, rfl, SqT.of hT, rfl, _, _, rfl, _, _, rfl, ⟨x.T, _, rfl, SqT.of (g1.fh _ _ k.tup), rfl, _, _, rfl, _, _, rfl, rfl, rfl, ?_⟩⟩
      rw [rest_next hx] at cl
      have cl : Cells K6 E14 U1 ((mkP xs j ++ [(x.mr.m, x.mr.rs.map V.ref)]) ++ (x.rws ++ (x.pc ++ rest xs (j + 1)))) := by
        have e : mkP xs j ++ (x.cells ++ rest xs (j + 1)) = (mkP xs j ++ [(x.mr.m, x.mr.rs.map V.ref)]) ++ (x.rws ++ (x.pc ++ rest xs (j + 1))) := by
          simp only [NR.cells, MR.cells, NR.rws, List.append_assoc, List.cons_append, List.nil_append]
        rw [← e]; exact cl
      refine ⟨_, rfl, x.mr.m, _, rfl, SqL.of (cl.ow (x.mr.m, x.mr.rs.map V.ref) (by simp)).h, for_it walk_enum (fun i σ G => ∃ (v13 v14 : Option V), σ = [some (.ref a), some (.ref p), some (.int R), some (.int S), some (.int way), some (.ref L), some (.ref Ld), none, (some (.int (j : Nat))), (some (.ref x.mr.m)), (some (.ref x.P)), v11, v12, v13, v14, v15, none, v17] ∧ Gr mu0 F4 K6 E14 G ∧ Cells K6 E14 G ((mkP xs j ++ [(x.mr.m, x.mr.rs.map V.ref)]) ++ (mkI (rowV j) i x.rws ++ (x.pc ++ rest xs (j + 1)))))
        ⟨v13, v14, rfl, g1, by rw [mkI_zero]; exact cl⟩ (fun i σ G _ ⟨_, _, _, _, cl⟩ => SqL.of (cl.ow (x.mr.m, x.mr.rs.map V.ref) (by simp)).h) ?_ ?_⟩
      · rintro i pr σ U2 U3 hi ⟨v13, v14, rfl, g2, cl2⟩ ⟨T2, x2, z2, rfl, nT2, rfl, ex2, ey2⟩
        have ex2 : x2 = .int (i : Nat) := (Option.some.inj ex2).symm
        subst ex2
        obtain ⟨r, hr, rfl⟩ : ∃ r, x.mr.rs[i]? = some r ∧ z2 = .ref r := by
          have ey2 : (x.mr.rs.map V.ref)[i]? = some z2 := ey2
          rw [List.getElem?_map] at ey2
          obtain ⟨r, h, e⟩ := Option.map_eq_some_iff.mp ey2
          exact ⟨r, h, e.symm⟩
        obtain ⟨es, hes, les⟩ := k.at' i r hr
        have g3 := g2.own (o := .tup [.int (i : Nat), .ref r]) nT2
        have cl3 := cl2.gr0 ((Gr.refl (mu := mu0) g2.fh).own (o := .tup [.int (i : Nat), .ref r]) nT2)
        have hT2 : (upd U2 T2 (.tup [.int (i : Nat), .ref r])) T2 = some (.tup [.int (i : Nat), .ref r]) := upd_same
        generalize upd U2 T2 (.tup [.int (i : Nat), .ref r]) = U4 at g3 cl3 hT2 ⊢
        obtain ⟨cl4, wr⟩ := cl3.setAt (ys := es ++ [rowV j i]) (mkI_get hes)
        rw [mkI_set hes] at cl4
        refine ⟨T2, _, rfl, SqT.of hT2, rfl, _, _, rfl, _, _, rfl, rfl, ?_⟩
        refine ⟨_, rfl, .inl ⟨rfl, _, SqL.of wr.h⟩, _, rfl, _, _, rfl, rfl, .inl ⟨by omega, by omega⟩, _, rfl, _, _, rfl, rfl, r, _, _, rfl, rfl, wr.h, lt_size (by rw [les]; omega), ?_⟩
        exact ⟨_, _, rfl, g3.set wr.f (.inl wr.n), cl4⟩
      rintro σ U4 ⟨v13', v14', rfl, g4, cl4⟩
      rw [mkI_all (by rw [NR.rws, List.length_zip, List.length_map]; omega)] at cl4
      have cl5 : Cells K6 E14 U4 (mkP xs j ++ ([(x.mr.m, x.mr.rs.map V.ref)] ++ (mkA (rowV j) x.rws ++ (x.pc ++ rest xs (j + 1))))) := by
        rw [← List.append_assoc (mkP xs j)]; exact cl4
      obtain ⟨cl6, wm⟩ := cl5.setAt (i := 0) (ys := x.mr.rs.map V.ref ++ [.int (j : Nat)]) rfl
      refine ⟨_, rfl, .inl ⟨rfl, _, SqL.of wm.h⟩, _, rfl, x.mr.m, _, _, rfl, rfl, wm.h, lt_size (by rw [List.length_map, k.len]; omega), ?_⟩
      have g6 := g4.set (o := .lst (x.mr.rs.map V.ref ++ [.int (j : Nat)])) wm.f (.inl wm.n)
      generalize upd U4 x.mr.m (.lst (x.mr.rs.map V.ref ++ [.int (j : Nat)])) = U5 at g6 cl6 ⊢
      have cl7 : Cells K6 E14 U5 ((mkP xs j ++ (x.mr.m, x.mr.rs.map V.ref ++ [.int (j : Nat)]) :: mkA (rowV j) x.rws) ++ (x.pc ++ rest xs (j + 1))) := by
        rw [List.append_assoc, List.cons_append]; exact cl6
      have fin : ∀ {G : Hp}, Cells K6 E14 G ((mkP xs j ++ (x.mr.m, x.mr.rs.map V.ref ++ [.int (j : Nat)]) :: mkA (rowV j) x.rws) ++ (mkA (fun _ => .int (j : Nat)) x.pc ++ rest xs (j + 1))) → Cells K6 E14 G (mkP xs (j + 1) ++ rest xs (j + 1)) := fun {G} h => by
        rw [mkP_next hx, mkC]
        rw [← List.cons_append, List.append_assoc, List.append_assoc, ← List.append_assoc (mkP xs j)]
        exact h
      clear cl cl4 cl5 cl6 wm g4
      rcases k.pap with ⟨ps, hP, ns, epc⟩ | ⟨w, a1, b1, c1, ys, zs, us', hP, epc, n1, n2, n3, l1, l2, l3⟩
      · refine ⟨_, rfl, _, rfl, sl_tail2 (SqT.of (g6.fh _ _ hP)) fun p1 np1 => ?_⟩
        generalize hcv : cutV (.str x.p.kd.x :: ps) (some 2) none = cv
        have g7 := g6.own (o := .tup cv) np1
        have cl8 := cl7.gr0 ((Gr.refl (mu := mu0) g6.fh).own (o := .tup cv) np1)
        have wp := Ow.mk1 (o := .tup cv) g6 np1
        generalize upd U5 p1 (.tup cv) = U6 at g7 cl8 wp ⊢
        refine ⟨p1, rfl, ⟨_, SqT.of wp.h⟩, for_it walk_tup (fun i σ G => ∃ (v15 : Option V), σ = [some (.ref a), some (.ref p), some (.int R), some (.int S), some (.int way), some (.ref L), some (.ref Ld), none, (some (.int (j : Nat))), (some (.ref x.mr.m)), (some (.ref x.P)), v11, v12, v13', v14', v15, none, v17] ∧ G = U6)
          ⟨v15, rfl, rfl⟩ (fun i σ G _ ⟨_, _, e⟩ => by rw [e]; exact SqT.of wp.h) ?_ ?_⟩
        · rintro i v σ U7 U8 hi ⟨v15, rfl, rfl⟩ ⟨rfl, hv⟩
          refine ⟨fun σ' H' => ∃ (v15 : Option V), σ' = [some (.ref a), some (.ref p), some (.int R), some (.int S), some (.int way), some (.ref L), some (.ref Ld), none, (some (.int (j : Nat))), (some (.ref x.mr.m)), (some (.ref x.P)), v11, v12, v13', v14', v15, none, v17] ∧ H' = U8, ?_, fun _ _ h => h⟩
          exact ⟨_, rfl, x.P, _, _, _, rfl, rfl, SqT.of (g7.fh _ _ hP), atI_nat (j := 0) rfl, rfl, _, rfl, ifF (decide_eq_false fun z => ns (V.str.inj z)) ⟨_, rfl, rfl⟩⟩
        rintro σ U9 ⟨v15', rfl, rfl⟩
        refine ⟨_, _, _, _, _, _, _, _, _, rfl, g7, fin ?_⟩
        rw [epc] at cl8 ⊢
        exact cl8
      · refine ⟨_, rfl, _, rfl, sl_tail2 (SqT.of (g6.fh _ _ hP)) fun p1 np1 => ?_⟩
        have hcv : cutV [.str "shut", .int w, .ref a1, .ref b1, .ref c1] (some 2) none = [.ref a1, .ref b1, .ref c1] := rfl
        rw [hcv]
        have g7 := g6.own (o := .tup [.ref a1, .ref b1, .ref c1]) np1
        have cl8 := cl7.gr0 ((Gr.refl (mu := mu0) g6.fh).own (o := .tup [.ref a1, .ref b1, .ref c1]) np1)
        have wp := Ow.mk1 (o := .tup [.ref a1, .ref b1, .ref c1]) g6 np1
        generalize upd U5 p1 (.tup [.ref a1, .ref b1, .ref c1]) = U6 at g7 cl8 wp ⊢
        refine ⟨p1, rfl, ⟨_, SqT.of wp.h⟩, for_it walk_tup (fun i σ G => ∃ (v15 : Option V), σ = [some (.ref a), some (.ref p), some (.int R), some (.int S), some (.int way), some (.ref L), some (.ref Ld), none, (some (.int (j : Nat))), (some (.ref x.mr.m)), (some (.ref x.P)), v11, v12, v13', v14', v15, none, v17] ∧ Gr mu0 F4 K6 E14 G ∧ Ow K6 E14 G p1 (.tup [.ref a1, .ref b1, .ref c1]) ∧ Cells K6 E14 G ((mkP xs j ++ (x.mr.m, x.mr.rs.map V.ref ++ [.int (j : Nat)]) :: mkA (rowV j) x.rws) ++ (mkI (fun _ => .int (j : Nat)) i x.pc ++ rest xs (j + 1))))
          ⟨v15, rfl, g7, wp, by rw [mkI_zero]; exact cl8⟩ (fun i σ G _ ⟨_, _, _, wp, _⟩ => SqT.of wp.h) ?_ ?_⟩
        · rintro i v σ U7 U8 hi ⟨v15, rfl, g8, wp, cl9⟩ ⟨rfl, hv⟩
          obtain ⟨pa, es, hq, rfl, la⟩ : ∃ (pa : Addr) (es : List V), x.pc[i]? = some (pa, es) ∧ v = .ref pa ∧ es.length ≤ 20000 := by
            rw [epc]
            have hi : i < 3 := hi
            rcases (by omega : i = 0 ∨ i = 1 ∨ i = 2) with rfl | rfl | rfl <;> cases hv
            · exact ⟨_, _, rfl, rfl, l1⟩
            · exact ⟨_, _, rfl, rfl, l2⟩
            · exact ⟨_, _, rfl, rfl, l3⟩
          obtain ⟨cl10, wa⟩ := cl9.setAt (ys := es ++ [.int (j : Nat)]) (mkI_get (f := fun _ => .int (j : Nat)) hq)
          rw [show es ++ [V.int (j : Nat)] = es ++ [(fun _ => V.int (j : Nat)) i] from rfl, mkI_set hq] at cl10
          refine ⟨fun σ' H' => ∃ (v15 : Option V), σ' = [some (.ref a), some (.ref p), some (.int R), some (.int S), some (.int way), some (.ref L), some (.ref Ld), none, (some (.int (j : Nat))), (some (.ref x.mr.m)), (some (.ref x.P)), v11, v12, v13', v14', v15, none, v17] ∧ Gr mu0 F4 K6 E14 H' ∧ Ow K6 E14 H' p1 (.tup [.ref a1, .ref b1, .ref c1]) ∧ Cells K6 E14 H' ((mkP xs j ++ (x.mr.m, x.mr.rs.map V.ref ++ [.int (j : Nat)]) :: mkA (rowV j) x.rws) ++ (mkI (fun _ => .int (j : Nat)) (i + 1) x.pc ++ rest xs (j + 1))), ?_, fun _ _ h => h⟩
          refine ⟨_, rfl, x.P, _, _, _, rfl, rfl, SqT.of (g8.fh _ _ hP), atI_nat (j := 0) rfl, rfl, _, rfl, ifT (decide_eq_true rfl) ?_⟩
          refine ⟨_, rfl, .inl ⟨rfl, _, SqL.of wa.h⟩, _, rfl, pa, _, _, rfl, rfl, wa.h, lt_size (by omega), ?_⟩
          exact ⟨_, rfl, g8.set wa.f (.inl wa.n), wp.other (fun e => by have z := wp.h; rw [e, wa.h] at z; cases z), cl10⟩
        rintro σ U9 ⟨v15', rfl, g9, _, cl9⟩
        rw [mkI_all (by rw [epc]; exact Nat.le_refl 3)] at cl9
        exact ⟨_, _, _, _, _, _, _, _, _, rfl, g9, fin cl9⟩
    rintro σ G20 ⟨v8, v9, v10, v11, v12, v13, v14, v15, v17, rfl, g20, cl20⟩
    have hL := g20.fh _ _ hLt
    have nx : ∀ x ∈ xs, NX G20 R S x := fun x m => (nx x m).up g20.fh
    have own : ∀ {j : Nat} {x : NR}, xs[j]? = some x → ∀ q ∈ mkC j x, G20 q.1 = some (.lst q.2) := fun {j x} hx q m => by
      have l := (List.getElem?_eq_some_iff.mp hx).1
      exact (cl20.ow q (List.mem_append_left _ (mkP_mem hx (by rw [List.length_map]; exact l) m))).h
    have gz : Gr mu0 G20 G20 G20 G20 := Gr.refl (Same.refl G20)
    clear cl20 g20 hLt gt
    -- the marks are read
    refine ⟨_, rfl, L, _, rfl, SqL.of hL, for_it walk_enum (fun j σ G => ∃ (F : Hp) (v8 v9 v10 v11 v12 v13 v14 v15 v17 : Option V), σ = [some (.ref a), some (.ref p), some (.int R), some (.int S), some (.int way), some (.ref L), some (.ref Ld), none, v8, v9, v10, v11, v12, v13, v14, v15, none, v17] ∧ Gr mu0 G20 G20 F G)
      ⟨G20, _, _, _, _, _, _, _, _, _, rfl, gz⟩ (fun j σ G _ ⟨_, _, _, _, _, _, _, _, _, _, _, g⟩ => SqL.of (g.fh _ _ (g.ff _ _ hL))) ?_ ?_⟩
    · rintro j pr σ U U' hj ⟨F, v8, v9, v10, v11, v12, v13, v14, v15, v17, rfl, g⟩ ⟨T, x0, z0, rfl, nT, rfl, ex0, ey0⟩
      have ex0 : x0 = .int (j : Nat) := (Option.some.inj ex0).symm
      subst ex0
      obtain ⟨x, hx, rfl⟩ : ∃ x, xs[j]? = some x ∧ z0 = .ref x.T := by
        have ey0 : (xs.map fun x => V.ref x.T)[j]? = some z0 := ey0
        rw [List.getElem?_map] at ey0
        obtain ⟨x, h, e⟩ := Option.map_eq_some_iff.mp ey0
        exact ⟨x, h, e.symm⟩
      have k := nx x (List.mem_of_getElem? hx)
      have own := own hx
      have g1 := g.own (o := .tup [.int (j : Nat), .ref x.T]) nT
      have hT : (upd U T (.tup [.int (j : Nat), .ref x.T])) T = some (.tup [.int (j : Nat), .ref x.T]) := upd_same
      generalize upd U T (.tup [.int (j : Nat), .ref x.T]) = U1 at g1 hT ⊢
      have at1 : ∀ {F G : Hp} {c : Addr} {o : HO}, Gr mu0 G20 G20 F G → G20 c = some o → G c = some o := fun {F G c o} g h => g.fh _ _ (g.ff _ _ h)
      refine ⟨T, _, rfl, SqT.of hT, rfl, _, _, rfl, _, _, rfl, ⟨x.T, _, rfl, SqT.of (at1 g1 k.tup), rfl, _, _, rfl, _, _, rfl, rfl, rfl, ?_⟩⟩
      refine ⟨fun σ' H' => ∃ (F : Hp) (v15 : Option V), σ' = [some (.ref a), some (.ref p), some (.int R), some (.int S), some (.int way), some (.ref L), some (.ref Ld), none, (some (.int (j : Nat))), (some (.ref x.mr.m)), (some (.ref x.P)), v11, v12, v13, v14, v15, none, v17] ∧ Gr mu0 G20 G20 F H', ?_, ?_⟩
      · rcases k.pap with ⟨ps, hP, ns, epc⟩ | ⟨w, a1, b1, c1, ys, zs, us', hP, epc, n1, n2, n3, l1, l2, l3⟩
        · exact ⟨_, rfl, x.P, _, _, _, rfl, rfl, SqT.of (at1 g1 hP), atI_nat (j := 0) rfl, rfl, _, rfl, ifF (decide_eq_false fun z => ns (V.str.inj z)) ⟨F, _, rfl, g1⟩⟩
        refine ⟨_, rfl, x.P, _, _, _, rfl, rfl, SqT.of (at1 g1 hP), atI_nat (j := 0) rfl, rfl, _, rfl, ifT (decide_eq_true rfl) ?_⟩
        refine ⟨_, rfl, _, rfl, sl_tail2 (SqT.of (at1 g1 hP)) fun p1 np1 => ?_⟩
        have hcv : cutV [.str "shut", .int w, .ref a1, .ref b1, .ref c1] (some 2) none = [.ref a1, .ref b1, .ref c1] := rfl
        rw [hcv]
        obtain ⟨F2, g2, hp1, s2, _⟩ := g1.newE (o := .tup [.ref a1, .ref b1, .ref c1]) np1
        generalize upd U1 p1 (.tup [.ref a1, .ref b1, .ref c1]) = U2 at g2 ⊢
        refine ⟨p1, rfl, ⟨_, SqT.of (g2.fh _ _ hp1)⟩, for_it walk_tup (fun i σ G => ∃ (v15 : Option V), σ = [some (.ref a), some (.ref p), some (.int R), some (.int S), some (.int way), some (.ref L), some (.ref Ld), none, (some (.int (j : Nat))), (some (.ref x.mr.m)), (some (.ref x.P)), v11, v12, v13, v14, v15, none, v17] ∧ Gr mu0 G20 G20 F2 G)
          ⟨v15, rfl, g2⟩ (fun i σ G _ ⟨_, _, g⟩ => SqT.of (g.fh _ _ hp1)) ?_ (fun σ G ⟨v15, e, g⟩ => ⟨F2, v15, e, g⟩)⟩
        rintro i v σ U7 U8 hi ⟨v15, rfl, g3⟩ ⟨rfl, hv⟩
        obtain ⟨pa, es, hq, rfl, la, ni⟩ : ∃ (pa : Addr) (es : List V), x.pc[i]? = some (pa, es) ∧ v = .ref pa ∧ es.length ≤ 20000 ∧ ∀ v ∈ es, NoI G20 v := by
          rw [epc]
          have hi : i < 3 := hi
          rcases (by omega : i = 0 ∨ i = 1 ∨ i = 2) with rfl | rfl | rfl <;> cases hv
          · exact ⟨_, _, rfl, rfl, l1, n1⟩
          · exact ⟨_, _, rfl, rfl, l2, n2⟩
          · exact ⟨_, _, rfl, rfl, l3, n3⟩
        have hpa : G20 pa = some (.lst (es ++ [.int (j : Nat)])) := own (pa, es ++ [.int (j : Nat)]) (List.mem_cons_of_mem _ (List.mem_append_right _ (mkA_get (f := fun _ => .int (j : Nat)) hq)))
        refine ⟨_, rfl, pa, rfl, ⟨_, SqL.of (at1 g3 hpa)⟩, fun D nD => lc_list (K := K) (a := pa) (xs := es ++ [.int (j : Nat)]) (fun i G => Gr mu0 G20 G20 F2 G ∧ Ow G20 F2 G D (.lst (if i ≤ es.length then [] else [.int (j : Nat)])))
          ⟨g3.own nD, by rw [if_pos (Nat.zero_le _)]; exact Ow.mk1 g3 nD⟩ (fun i G _ ⟨g, _⟩ => SqL.of (at1 g hpa)) ?_ ?_⟩
        · rintro i v G hi ⟨g, wD⟩
          by_cases c : i < es.length
          · rw [List.getElem?_append_left c] at hi
            obtain ⟨ct, us, rfl, hct⟩ := ni v (List.mem_of_getElem? hi)
            rw [if_pos (Nat.le_of_lt c)] at wD
            exact ⟨rfl, _, rfl, _, _, _, _, false, rfl, .ty "int", .base (.tup (at1 g hct)), kit_ty (by decide +kernel), _, rfl, ifF rfl ⟨g, by rw [if_pos (show i + 1 ≤ es.length from c)]; exact wD⟩⟩
          · have il := (List.getElem?_eq_some_iff.mp hi).1
            rw [List.length_append, List.length_singleton] at il
            have ei : i = es.length := by omega
            subst ei
            rw [List.getElem?_append_right (Nat.le_refl _), Nat.sub_self] at hi
            cases hi
            rw [if_pos (Nat.le_refl _)] at wD
            refine ⟨rfl, _, rfl, _, _, _, _, true, rfl, .ty "int", .base (.int _), kt_int_int, _, rfl, ifT rfl ⟨_, rfl, [], wD.h, by decide, g.set wD.f (.inl wD.n), ?_⟩⟩
            rw [if_neg (by omega)]
            exact wD.set
        rintro G ⟨g4, wD⟩
        rw [List.length_append, List.length_singleton, if_neg (by omega)] at wD
        refine ⟨_, rfl, one_le, fun l nl => ?_⟩
        exact ne_dat (a := ([(j : Int)] : List Int)) (b := [(j : Int)]) ⟨D, _, rfl, (wD.own nl).h, All2.one rfl⟩ ⟨l, _, rfl, upd_same, All2.one rfl⟩ ⟨_, rfl, ifF (by rw [decide_eq_true rfl]; rfl) ⟨_, rfl, g4.own nl⟩⟩
      rintro σ' U3 ⟨F3, v15', rfl, g3⟩
      have hm : G20 x.mr.m = some (.lst (x.mr.rs.map V.ref ++ [.int (j : Nat)])) := own (x.mr.m, x.mr.rs.map V.ref ++ [.int (j : Nat)]) (List.mem_cons_self ..)
      refine ⟨_, rfl, _, rfl, _, rfl, x.mr.m, _, rfl, SqL.of (at1 g3 hm), fun p1 np1 => ?_⟩
      rw [cut_neg1]
      obtain ⟨F4', g4, hp1, s4, _⟩ := g3.newE (o := .lst (x.mr.rs.map V.ref)) np1
      generalize upd U3 p1 (.lst (x.mr.rs.map V.ref)) = U4 at g4 ⊢
      refine ⟨p1, rfl, ⟨_, SqL.of (g4.fh _ _ hp1)⟩, fun D nD => lc_list (K := K) (a := p1) (xs := x.mr.rs.map V.ref) (fun i G => ∃ (F : Hp) (ws : List V), Gr mu0 G20 G20 F G ∧ Same F4' F ∧ Ow G20 F G D (.lst ws) ∧ IsAll F ws ((List.range i).map fun (n : Nat) => ([10 * (j : Int) + (n : Int)] : List Int)))
        ⟨F4', [], g4.own nD, Same.refl F4', Ow.mk1 g4 nD, All2.nil⟩ (fun i G _ ⟨F, _, g, s, _⟩ => SqL.of (g.fh _ _ (s _ _ hp1))) ?_ ?_⟩
      · rintro i v G hi ⟨F5, ws, g5, s5, wD, al⟩
        rw [List.getElem?_map] at hi
        obtain ⟨r, hr, rfl⟩ := Option.map_eq_some_iff.mp hi
        obtain ⟨es, hes, les⟩ := k.at' i r hr
        have il := (List.getElem?_eq_some_iff.mp hr).1
        have hrr : G20 r = some (.lst (es ++ [rowV j i])) := own (r, es ++ [rowV j i]) (List.mem_cons_of_mem _ (List.mem_append_left _ (mkA_get hes)))
        refine ⟨rfl, yes ⟨_, rfl, _, rfl, _, rfl, r, _, rfl, SqL.of (at1 g5 hrr), ?_⟩⟩
        rw [cut_from les]
        intro l nl
        obtain ⟨F6, g6, hl, s6, gg⟩ := g5.newE (o := .lst [rowV j i]) nl
        have wD := wD.call gg (fun z => z)
        refine ⟨ws, wD.h, lt_size (by rw [al.1, List.length_map, List.length_range]; have := k.len; omega), F6, ws ++ [.ref l], g6.set wD.f (.inl wD.n), s5.trans s6, wD.set, ?_⟩
        rw [List.range_succ, List.map_append]
        exact (IsAll.up al s6).app (All2.one ⟨l, _, rfl, hl, All2.one rfl⟩)
      rintro G ⟨F5, ws, g5, s5, wD, al⟩
      rw [List.length_map, k.len] at al
      obtain ⟨F6, g6, hD, s6⟩ : ∃ F6, Gr mu0 G20 G20 F6 G ∧ F6 D = some (.lst ws) ∧ Same F5 F6 := ⟨_, g5.frz wD.h wD.n wD.f, upd_same, sm_up wD.f⟩
      have al := IsAll.up al s6
      clear wD
      refine ⟨_, rfl, _, rfl, x.mr.m, _, _, _, rfl, rfl, SqL.of (at1 g6 hm), atI_last _ _, _, rfl, rfl, _, rfl, ifF (by rw [decide_eq_true rfl]; rfl) ?_⟩
      refine ⟨_, rfl, _, rfl, (R : Int), rfl, by omega, by omega, fun Z nZ => lc_range (lo := 0) (n := ((R : Int)).toNat) (fun i G => ∃ (F : Hp) (ws : List V), Gr mu0 G20 G20 F G ∧ Same F6 F ∧ Ow G20 F G Z (.lst ws) ∧ IsAll F ws ((List.range i).map fun (n : Nat) => ([10 * (j : Int) + (n : Int)] : List Int)))
        ⟨F6, [], g6.own nZ, Same.refl F6, Ow.mk1 g6 nZ, All2.nil⟩ ?_ ?_⟩
      · rintro i G hi ⟨F7, ws7, g7, s7, wZ, al7⟩
        rw [Int.toNat_natCast] at hi
        refine ⟨rfl, yes ⟨_, rfl, _, _, rfl, rfl, .inl ⟨by omega, by omega⟩, _, rfl, _, _, rfl, rfl, one_le, fun l nl => ?_⟩⟩
        rw [Int.zero_add]
        dsimp only
        obtain ⟨F8, g8, hl, s8, gg⟩ := g7.newE (o := .lst [.int (10 * (j : Int) + (i : Int))]) nl
        have wZ := wZ.call gg (fun z => z)
        refine ⟨ws7, wZ.h, lt_size (by rw [al7.1, List.length_map, List.length_range]; omega), F8, ws7 ++ [.ref l], g8.set wZ.f (.inl wZ.n), s7.trans s8, wZ.set, ?_⟩
        rw [List.range_succ, List.map_append]
        exact (IsAll.up al7 s8).app (All2.one ⟨l, _, rfl, hl, All2.one rfl⟩)
      rintro G9 ⟨F9', ws9, g9, s9, wZ, al9⟩
      rw [Int.toNat_natCast] at al9
      refine ne_dat (a := (List.range R).map fun (n : Nat) => ([10 * (j : Int) + (n : Int)] : List Int)) (b := (List.range R).map fun (n : Nat) => ([10 * (j : Int) + (n : Int)] : List Int)) ⟨D, ws, rfl, g9.fh _ _ (s9 _ _ hD), IsAll.up al (fun c o h => g9.fh _ _ (s9 _ _ h))⟩ ⟨Z, ws9, rfl, wZ.h, IsAll.up al9 g9.fh⟩ ⟨_, rfl, ifF (by rw [decide_eq_true rfl]; rfl) ?_⟩
      exact ⟨F9', _, _, _, _, _, _, _, _, _, rfl, g9⟩
    rintro σ G21 ⟨F21, v8, v9, v10, v11, v12, v13, v14, v15, v17, rfl, g21⟩
    clear own nx hL gz
    have gz : Gr mu0 G21 G21 G21 G21 := Gr.refl (Same.refl G21)
    -- the nodes of one row of four
    refine ⟨G21, 1, 4, 3, rfl, gz.fh, by decide, by decide, by decide, by decide, by decide, by decide, tree_14, fun F22 H22 L2 ys g22 hL2 eys oky _ _ => ?_⟩
    have ly := len_map eys
    rw [tits_len tree_14 (Nat.le_refl 3)] at ly
    refine ⟨L2, rfl, ⟨_, SqL.of (g22.fh _ _ hL2)⟩, fun D nD => lc_list (K := K) (a := L2) (xs := ys.map fun x => V.ref x.T) (fun i G => ∃ ws : List V, Gr mu0 G21 G21 F22 G ∧ Ow G21 F22 G D (.lst ws) ∧ IsAll F22 ws ((ys.take i).map fun x => x.mr.M))
      ⟨[], g22.own nD, Ow.mk1 g22 nD, All2.nil⟩ (fun i G _ ⟨_, g, _⟩ => SqL.of (g.fh _ _ hL2)) ?_ ?_⟩
    · rintro i v G hi ⟨ws, g, wD, al⟩
      rw [List.getElem?_map] at hi
      obtain ⟨x, hx, rfl⟩ := Option.map_eq_some_iff.mp hi
      have k := oky x (List.mem_of_getElem? hx)
      have il := (List.getElem?_eq_some_iff.mp hx).1
      refine ⟨rfl, yes ⟨_, rfl, x.T, _, _, _, rfl, rfl, SqT.of (g.fh _ _ k.tup), atI_nat (j := 0) rfl, ws, wD.h, by rw [al.1, List.length_map, List.length_take]; exact lt_size (by omega), ws ++ [.ref x.mr.m], g.set wD.f (.inl wD.n), wD.set, ?_⟩⟩
      rw [List.take_add_one, hx, List.map_append]
      exact al.app (All2.one k.mr.is)
    rintro G23 ⟨ws, g23, wD, al⟩
    rw [List.length_map, List.take_length, eys] at al
    obtain ⟨F24, g24, hD, s24⟩ : ∃ F24, Gr mu0 G21 G21 F24 G23 ∧ F24 D = some (.lst ws) ∧ Same F22 F24 := ⟨_, g23.frz wD.h wD.n wD.f, upd_same, sm_up wD.f⟩
    have al := IsAll.up al s24
    clear wD
    refine ⟨F24, 1, 4, 3, rfl, g24.fh, by decide, by decide, by decide, by decide, by decide, tree_14, fun F25 H25 Ld2 us2 g25 hLd2 dus2 => ?_⟩
    have lu2 : us2.length = 3 := by rw [dus2.1, tits_len tree_14 (Nat.le_refl 3)]
    refine ⟨Ld2, rfl, ⟨_, SqL.of (g25.fh _ _ hLd2)⟩, fun D2 nD2 => lc_list (K := K) (a := Ld2) (xs := us2) (fun i G => ∃ ws2 : List V, Gr mu0 F24 G23 F25 G ∧ Ow G23 F25 G D2 (.lst ws2) ∧ IsAll F25 ws2 (((tits 1 4 3).2).take i))
      ⟨[], g25.own nD2, Ow.mk1 g25 nD2, All2.nil⟩ (fun i G _ ⟨_, g, _⟩ => SqL.of (g.fh _ _ hLd2)) ?_ ?_⟩
    · rintro i v G hi ⟨ws2, g, wD2, al2⟩
      obtain ⟨M, hM, T, mv, qv, rfl, hT, iM, _⟩ := dus2.get' hi
      have il := (List.getElem?_eq_some_iff.mp hi).1
      refine ⟨rfl, yes ⟨_, rfl, T, _, _, _, rfl, rfl, SqT.of (g.fh _ _ hT), atI_nat (j := 0) rfl, ws2, wD2.h, by rw [al2.1, List.length_take]; exact lt_size (by omega), ws2 ++ [mv], g.set wD2.f (.inl wD2.n), wD2.set, ?_⟩⟩
      rw [List.take_add_one, hM]
      exact al2.app (All2.one iM)
    rintro G26 ⟨ws2, g26, wD2, al2⟩
    rw [dus2.1, List.take_length] at al2
    refine eq_dat (a := (tits 1 4 3).2) (b := (tits 1 4 3).2) ⟨D, ws, rfl, g26.fh _ _ (g26.ff _ _ hD), IsAll.up al fun c o h => g26.fh _ _ (g26.ff _ _ h)⟩ ⟨D2, ws2, rfl, wD2.h, IsAll.up al2 g26.fh⟩ ?_
    rw [decide_eq_true rfl]
    exact q _

end
def all_tx {K : PySem.W.Frag} {h : Heap} {mg : Str → Option Value} {a_L_mixed a_L_purse a_L_draw a_must_size a_empty_machine a_is_entry a_is_machine a_must_machine a_Goer_init a_Goer_entry a_Goer_step a_gone a_told_strip a_Goer_setup a_run a_is_width a_entry_for a_led_right a_led_left a_put_new a_grown a_least_told a_shut_paper a_plain a_Log_init a_Log_last a_Log_same a_ring a_Log_drifts a_drift a_ends_of a_ahead_of a_gone_back a_first_empty a_ends_behind a_is_back a_no_back a_sorted_as a_met_at a_all_entries a_named_signs a_with_entry a_named_rows a_children a_tree a_L_met a_L_named_things a_L_children a_L_nodes a_L_plainly a_is_ring a_is_drift a_are_words a_are_middles a_shows_shut a_shows a_law C_NoSize C_NoMachine C_Goer C_Log : Addr} {od_L_mixed an_L_mixed od_L_purse an_L_purse od_L_draw an_L_draw od_must_size an_must_size od_empty_machine an_empty_machine od_is_entry an_is_entry od_is_machine an_is_machine od_must_machine an_must_machine od_Goer_init an_Goer_init od_Goer_entry an_Goer_entry od_Goer_step an_Goer_step od_gone an_gone od_told_strip an_told_strip od_Goer_setup an_Goer_setup od_run an_run od_is_width an_is_width od_entry_for an_entry_for od_led_right an_led_right od_led_left an_led_left od_put_new an_put_new od_grown an_grown od_least_told an_least_told od_shut_paper an_shut_paper od_plain an_plain od_Log_init an_Log_init od_Log_last an_Log_last od_Log_same an_Log_same od_ring an_ring od_Log_drifts an_Log_drifts od_drift an_drift od_ends_of an_ends_of od_ahead_of an_ahead_of od_gone_back an_gone_back od_first_empty an_first_empty od_ends_behind an_ends_behind od_is_back an_is_back od_no_back an_no_back od_sorted_as an_sorted_as od_met_at an_met_at od_all_entries an_all_entries od_named_signs an_named_signs od_with_entry an_with_entry od_named_rows an_named_rows od_children an_children od_tree an_tree od_L_met an_L_met od_L_named_things an_L_named_things od_L_children an_L_children od_L_nodes an_L_nodes od_L_plainly an_L_plainly od_is_ring an_is_ring od_is_drift an_is_drift od_are_words an_are_words od_are_middles an_are_middles od_shows_shut an_shows_shut od_shows an_shows od_law an_law : Option Addr} {sl_L_mixed sl_L_purse sl_L_draw sl_must_size sl_empty_machine sl_is_entry sl_is_machine sl_must_machine sl_Goer_init sl_Goer_entry sl_Goer_step sl_gone sl_told_strip sl_Goer_setup sl_run sl_is_width sl_entry_for sl_led_right sl_led_left sl_put_new sl_grown sl_least_told sl_shut_paper sl_plain sl_Log_init sl_Log_last sl_Log_same sl_ring sl_Log_drifts sl_drift sl_ends_of sl_ahead_of sl_gone_back sl_first_empty sl_ends_behind sl_is_back sl_no_back sl_sorted_as sl_met_at sl_all_entries sl_named_signs sl_with_entry sl_named_rows sl_children sl_tree sl_L_met sl_L_named_things sl_L_children sl_L_nodes sl_L_plainly sl_is_ring sl_is_drift sl_are_words sl_are_middles sl_shows_shut sl_shows sl_law : Array (Option Value)} {oc_L_mixed kV_L_mixed dc_L_mixed pm_L_mixed cd_L_mixed ct_L_mixed oc_L_purse kV_L_purse dc_L_purse pm_L_purse cd_L_purse ct_L_purse oc_L_draw kV_L_draw dc_L_draw pm_L_draw cd_L_draw ct_L_draw oc_must_size kV_must_size dc_must_size pm_must_size cd_must_size ct_must_size oc_empty_machine kV_empty_machine dc_empty_machine pm_empty_machine cd_empty_machine ct_empty_machine oc_is_entry kV_is_entry dc_is_entry pm_is_entry cd_is_entry ct_is_entry oc_is_machine kV_is_machine dc_is_machine pm_is_machine cd_is_machine ct_is_machine oc_must_machine kV_must_machine dc_must_machine pm_must_machine cd_must_machine ct_must_machine oc_Goer_init kV_Goer_init dc_Goer_init pm_Goer_init cd_Goer_init ct_Goer_init oc_Goer_entry kV_Goer_entry dc_Goer_entry pm_Goer_entry cd_Goer_entry ct_Goer_entry oc_Goer_step kV_Goer_step dc_Goer_step pm_Goer_step cd_Goer_step ct_Goer_step oc_gone kV_gone dc_gone pm_gone cd_gone ct_gone oc_told_strip kV_told_strip dc_told_strip pm_told_strip cd_told_strip ct_told_strip oc_Goer_setup kV_Goer_setup dc_Goer_setup pm_Goer_setup cd_Goer_setup ct_Goer_setup oc_run kV_run dc_run pm_run cd_run ct_run oc_is_width kV_is_width dc_is_width pm_is_width cd_is_width ct_is_width oc_entry_for kV_entry_for dc_entry_for pm_entry_for cd_entry_for ct_entry_for oc_led_right kV_led_right dc_led_right pm_led_right cd_led_right ct_led_right oc_led_left kV_led_left dc_led_left pm_led_left cd_led_left ct_led_left oc_put_new kV_put_new dc_put_new pm_put_new cd_put_new ct_put_new oc_grown kV_grown dc_grown pm_grown cd_grown ct_grown oc_least_told kV_least_told dc_least_told pm_least_told cd_least_told ct_least_told oc_shut_paper kV_shut_paper dc_shut_paper pm_shut_paper cd_shut_paper ct_shut_paper oc_plain kV_plain dc_plain pm_plain cd_plain ct_plain oc_Log_init kV_Log_init dc_Log_init pm_Log_init cd_Log_init ct_Log_init oc_Log_last kV_Log_last dc_Log_last pm_Log_last cd_Log_last ct_Log_last oc_Log_same kV_Log_same dc_Log_same pm_Log_same cd_Log_same ct_Log_same oc_ring kV_ring dc_ring pm_ring cd_ring ct_ring oc_Log_drifts kV_Log_drifts dc_Log_drifts pm_Log_drifts cd_Log_drifts ct_Log_drifts oc_drift kV_drift dc_drift pm_drift cd_drift ct_drift oc_ends_of kV_ends_of dc_ends_of pm_ends_of cd_ends_of ct_ends_of oc_ahead_of kV_ahead_of dc_ahead_of pm_ahead_of cd_ahead_of ct_ahead_of oc_gone_back kV_gone_back dc_gone_back pm_gone_back cd_gone_back ct_gone_back oc_first_empty kV_first_empty dc_first_empty pm_first_empty cd_first_empty ct_first_empty oc_ends_behind kV_ends_behind dc_ends_behind pm_ends_behind cd_ends_behind ct_ends_behind oc_is_back kV_is_back dc_is_back pm_is_back cd_is_back ct_is_back oc_no_back kV_no_back dc_no_back pm_no_back cd_no_back ct_no_back oc_sorted_as kV_sorted_as dc_sorted_as pm_sorted_as cd_sorted_as ct_sorted_as oc_met_at kV_met_at dc_met_at pm_met_at cd_met_at ct_met_at oc_all_entries kV_all_entries dc_all_entries pm_all_entries cd_all_entries ct_all_entries oc_named_signs kV_named_signs dc_named_signs pm_named_signs cd_named_signs ct_named_signs oc_with_entry kV_with_entry dc_with_entry pm_with_entry cd_with_entry ct_with_entry oc_named_rows kV_named_rows dc_named_rows pm_named_rows cd_named_rows ct_named_rows oc_children kV_children dc_children pm_children cd_children ct_children oc_tree kV_tree dc_tree pm_tree cd_tree ct_tree oc_L_met kV_L_met dc_L_met pm_L_met cd_L_met ct_L_met oc_L_named_things kV_L_named_things dc_L_named_things pm_L_named_things cd_L_named_things ct_L_named_things oc_L_children kV_L_children dc_L_children pm_L_children cd_L_children ct_L_children oc_L_nodes kV_L_nodes dc_L_nodes pm_L_nodes cd_L_nodes ct_L_nodes oc_L_plainly kV_L_plainly dc_L_plainly pm_L_plainly cd_L_plainly ct_L_plainly oc_is_ring kV_is_ring dc_is_ring pm_is_ring cd_is_ring ct_is_ring oc_is_drift kV_is_drift dc_is_drift pm_is_drift cd_is_drift ct_is_drift oc_are_words kV_are_words dc_are_words pm_are_words cd_are_words ct_are_words oc_are_middles kV_are_middles dc_are_middles pm_are_middles cd_are_middles ct_are_middles oc_shows_shut kV_shows_shut dc_shows_shut pm_shows_shut cd_shows_shut ct_shows_shut oc_shows kV_shows dc_shows pm_shows cd_shows ct_shows oc_law kV_law dc_law pm_law cd_law ct_law : Value} {tk_MOST_ROWS_tree tk_MOST_ENTRIES tk_MOST_ROWS_machines tk_MOST_SIGNS tk_MOST_WORDS tk_MOST_PARTS tk_MOST_DEPTH tk_MOST_STEPS tk_MOST_LOOKED tk_MOST_DEEP : Tok} (X : K.In h) (G : h.Ns mainGlobals mg)
    (n_NoSize : PySem.W.nsIn K mainGlobals "NoSize" = some (some (.ref C_NoSize)))
    (n_NoMachine : PySem.W.nsIn K mainGlobals "NoMachine" = some (some (.ref C_NoMachine)))
    (n_Goer : PySem.W.nsIn K mainGlobals "Goer" = some (some (.ref C_Goer)))
    (n_Log : PySem.W.nsIn K mainGlobals "Log" = some (some (.ref C_Log)))
    (n_L_mixed : PySem.W.nsIn K mainGlobals "_law_mixed" = some (some (.ref a_L_mixed)))
    (l_L_mixed : K.lookup a_L_mixed = some ⟨oc_L_mixed, od_L_mixed, .func (PySem.W.fnOf "_law_mixed" "_law_mixed" (defArgs s_L_mixed) (defBody s_L_mixed) (defScope s_L_mixed) .none kV_L_mixed dc_L_mixed pm_L_mixed an_L_mixed cd_L_mixed ct_L_mixed), sl_L_mixed⟩)
    (c_L_mixed : PySem.W.codeIn K cd_L_mixed "_law_mixed" = true)
    (k_L_mixed : PySem.W.keepIn K (.ref a_L_mixed) = true)
    (n_L_purse : PySem.W.nsIn K mainGlobals "_law_purse" = some (some (.ref a_L_purse)))
    (l_L_purse : K.lookup a_L_purse = some ⟨oc_L_purse, od_L_purse, .func (PySem.W.fnOf "_law_purse" "_law_purse" (defArgs s_L_purse) (defBody s_L_purse) (defScope s_L_purse) .none kV_L_purse dc_L_purse pm_L_purse an_L_purse cd_L_purse ct_L_purse), sl_L_purse⟩)
    (c_L_purse : PySem.W.codeIn K cd_L_purse "_law_purse" = true)
    (k_L_purse : PySem.W.keepIn K (.ref a_L_purse) = true)
    (n_L_draw : PySem.W.nsIn K mainGlobals "_law_draw" = some (some (.ref a_L_draw)))
    (l_L_draw : K.lookup a_L_draw = some ⟨oc_L_draw, od_L_draw, .func (PySem.W.fnOf "_law_draw" "_law_draw" (defArgs s_L_draw) (defBody s_L_draw) (defScope s_L_draw) .none kV_L_draw dc_L_draw pm_L_draw an_L_draw cd_L_draw ct_L_draw), sl_L_draw⟩)
    (c_L_draw : PySem.W.codeIn K cd_L_draw "_law_draw" = true)
    (k_L_draw : PySem.W.keepIn K (.ref a_L_draw) = true)
    (n_must_size : PySem.W.nsIn K mainGlobals "must_size" = some (some (.ref a_must_size)))
    (l_must_size : K.lookup a_must_size = some ⟨oc_must_size, od_must_size, .func (PySem.W.fnOf "must_size" "must_size" (defArgs s_must_size) (defBody s_must_size) (defScope s_must_size) .none kV_must_size dc_must_size pm_must_size an_must_size cd_must_size ct_must_size), sl_must_size⟩)
    (c_must_size : PySem.W.codeIn K cd_must_size "must_size" = true)
    (k_must_size : PySem.W.keepIn K (.ref a_must_size) = true)
    (n_empty_machine : PySem.W.nsIn K mainGlobals "empty_machine" = some (some (.ref a_empty_machine)))
    (l_empty_machine : K.lookup a_empty_machine = some ⟨oc_empty_machine, od_empty_machine, .func (PySem.W.fnOf "empty_machine" "empty_machine" (defArgs s_empty_machine) (defBody s_empty_machine) (defScope s_empty_machine) .none kV_empty_machine dc_empty_machine pm_empty_machine an_empty_machine cd_empty_machine ct_empty_machine), sl_empty_machine⟩)
    (c_empty_machine : PySem.W.codeIn K cd_empty_machine "empty_machine" = true)
    (k_empty_machine : PySem.W.keepIn K (.ref a_empty_machine) = true)
    (n_is_entry : PySem.W.nsIn K mainGlobals "is_entry" = some (some (.ref a_is_entry)))
    (l_is_entry : K.lookup a_is_entry = some ⟨oc_is_entry, od_is_entry, .func (PySem.W.fnOf "is_entry" "is_entry" (defArgs s_is_entry) (defBody s_is_entry) (defScope s_is_entry) .none kV_is_entry dc_is_entry pm_is_entry an_is_entry cd_is_entry ct_is_entry), sl_is_entry⟩)
    (c_is_entry : PySem.W.codeIn K cd_is_entry "is_entry" = true)
    (k_is_entry : PySem.W.keepIn K (.ref a_is_entry) = true)
    (n_is_machine : PySem.W.nsIn K mainGlobals "is_machine" = some (some (.ref a_is_machine)))
    (l_is_machine : K.lookup a_is_machine = some ⟨oc_is_machine, od_is_machine, .func (PySem.W.fnOf "is_machine" "is_machine" (defArgs s_is_machine) (defBody s_is_machine) (defScope s_is_machine) .none kV_is_machine dc_is_machine pm_is_machine an_is_machine cd_is_machine ct_is_machine), sl_is_machine⟩)
    (c_is_machine : PySem.W.codeIn K cd_is_machine "is_machine" = true)
    (k_is_machine : PySem.W.keepIn K (.ref a_is_machine) = true)
    (n_must_machine : PySem.W.nsIn K mainGlobals "must_machine" = some (some (.ref a_must_machine)))
    (l_must_machine : K.lookup a_must_machine = some ⟨oc_must_machine, od_must_machine, .func (PySem.W.fnOf "must_machine" "must_machine" (defArgs s_must_machine) (defBody s_must_machine) (defScope s_must_machine) .none kV_must_machine dc_must_machine pm_must_machine an_must_machine cd_must_machine ct_must_machine), sl_must_machine⟩)
    (c_must_machine : PySem.W.codeIn K cd_must_machine "must_machine" = true)
    (k_must_machine : PySem.W.keepIn K (.ref a_must_machine) = true)
    (n_Goer_init : PySem.W.findIn K (.ref C_Goer) "__init__" = some (some (.ref a_Goer_init)))
    (i_Goer_init : PySem.W.isFn K (.ref a_Goer_init) = true)
    (l_Goer_init : K.lookup a_Goer_init = some ⟨oc_Goer_init, od_Goer_init, .func (PySem.W.fnOf "__init__" "Goer.__init__" (defArgs s_Goer_init) (defBody s_Goer_init) (defScope s_Goer_init) .none kV_Goer_init dc_Goer_init pm_Goer_init an_Goer_init cd_Goer_init ct_Goer_init), sl_Goer_init⟩)
    (c_Goer_init : PySem.W.codeIn K cd_Goer_init "Goer.__init__" = true)
    (k_Goer_init : PySem.W.keepIn K (.ref a_Goer_init) = true)
    (n_Goer_entry : PySem.W.findIn K (.ref C_Goer) "entry" = some (some (.ref a_Goer_entry)))
    (i_Goer_entry : PySem.W.isFn K (.ref a_Goer_entry) = true)
    (l_Goer_entry : K.lookup a_Goer_entry = some ⟨oc_Goer_entry, od_Goer_entry, .func (PySem.W.fnOf "entry" "Goer.entry" (defArgs s_Goer_entry) (defBody s_Goer_entry) (defScope s_Goer_entry) .none kV_Goer_entry dc_Goer_entry pm_Goer_entry an_Goer_entry cd_Goer_entry ct_Goer_entry), sl_Goer_entry⟩)
    (c_Goer_entry : PySem.W.codeIn K cd_Goer_entry "Goer.entry" = true)
    (k_Goer_entry : PySem.W.keepIn K (.ref a_Goer_entry) = true)
    (n_Goer_step : PySem.W.findIn K (.ref C_Goer) "step" = some (some (.ref a_Goer_step)))
    (i_Goer_step : PySem.W.isFn K (.ref a_Goer_step) = true)
    (l_Goer_step : K.lookup a_Goer_step = some ⟨oc_Goer_step, od_Goer_step, .func (PySem.W.fnOf "step" "Goer.step" (defArgs s_Goer_step) (defBody s_Goer_step) (defScope s_Goer_step) .none kV_Goer_step dc_Goer_step pm_Goer_step an_Goer_step cd_Goer_step ct_Goer_step), sl_Goer_step⟩)
    (c_Goer_step : PySem.W.codeIn K cd_Goer_step "Goer.step" = true)
    (k_Goer_step : PySem.W.keepIn K (.ref a_Goer_step) = true)
    (n_gone : PySem.W.nsIn K mainGlobals "gone" = some (some (.ref a_gone)))
    (l_gone : K.lookup a_gone = some ⟨oc_gone, od_gone, .func (PySem.W.fnOf "gone" "gone" (defArgs s_gone) (defBody s_gone) (defScope s_gone) .none kV_gone dc_gone pm_gone an_gone cd_gone ct_gone), sl_gone⟩)
    (c_gone : PySem.W.codeIn K cd_gone "gone" = true)
    (k_gone : PySem.W.keepIn K (.ref a_gone) = true)
    (n_told_strip : PySem.W.nsIn K mainGlobals "told_strip" = some (some (.ref a_told_strip)))
    (l_told_strip : K.lookup a_told_strip = some ⟨oc_told_strip, od_told_strip, .func (PySem.W.fnOf "told_strip" "told_strip" (defArgs s_told_strip) (defBody s_told_strip) (defScope s_told_strip) .none kV_told_strip dc_told_strip pm_told_strip an_told_strip cd_told_strip ct_told_strip), sl_told_strip⟩)
    (c_told_strip : PySem.W.codeIn K cd_told_strip "told_strip" = true)
    (k_told_strip : PySem.W.keepIn K (.ref a_told_strip) = true)
    (n_Goer_setup : PySem.W.findIn K (.ref C_Goer) "setup" = some (some (.ref a_Goer_setup)))
    (i_Goer_setup : PySem.W.isFn K (.ref a_Goer_setup) = true)
    (l_Goer_setup : K.lookup a_Goer_setup = some ⟨oc_Goer_setup, od_Goer_setup, .func (PySem.W.fnOf "setup" "Goer.setup" (defArgs s_Goer_setup) (defBody s_Goer_setup) (defScope s_Goer_setup) .none kV_Goer_setup dc_Goer_setup pm_Goer_setup an_Goer_setup cd_Goer_setup ct_Goer_setup), sl_Goer_setup⟩)
    (c_Goer_setup : PySem.W.codeIn K cd_Goer_setup "Goer.setup" = true)
    (k_Goer_setup : PySem.W.keepIn K (.ref a_Goer_setup) = true)
    (n_run : PySem.W.nsIn K mainGlobals "run" = some (some (.ref a_run)))
    (l_run : K.lookup a_run = some ⟨oc_run, od_run, .func (PySem.W.fnOf "run" "run" (defArgs s_run) (defBody s_run) (defScope s_run) .none kV_run dc_run pm_run an_run cd_run ct_run), sl_run⟩)
    (c_run : PySem.W.codeIn K cd_run "run" = true)
    (k_run : PySem.W.keepIn K (.ref a_run) = true)
    (n_is_width : PySem.W.nsIn K mainGlobals "is_width" = some (some (.ref a_is_width)))
    (l_is_width : K.lookup a_is_width = some ⟨oc_is_width, od_is_width, .func (PySem.W.fnOf "is_width" "is_width" (defArgs s_is_width) (defBody s_is_width) (defScope s_is_width) .none kV_is_width dc_is_width pm_is_width an_is_width cd_is_width ct_is_width), sl_is_width⟩)
    (c_is_width : PySem.W.codeIn K cd_is_width "is_width" = true)
    (k_is_width : PySem.W.keepIn K (.ref a_is_width) = true)
    (n_entry_for : PySem.W.nsIn K mainGlobals "entry_for" = some (some (.ref a_entry_for)))
    (l_entry_for : K.lookup a_entry_for = some ⟨oc_entry_for, od_entry_for, .func (PySem.W.fnOf "entry_for" "entry_for" (defArgs s_entry_for) (defBody s_entry_for) (defScope s_entry_for) .none kV_entry_for dc_entry_for pm_entry_for an_entry_for cd_entry_for ct_entry_for), sl_entry_for⟩)
    (c_entry_for : PySem.W.codeIn K cd_entry_for "entry_for" = true)
    (k_entry_for : PySem.W.keepIn K (.ref a_entry_for) = true)
    (n_led_right : PySem.W.nsIn K mainGlobals "led_right" = some (some (.ref a_led_right)))
    (l_led_right : K.lookup a_led_right = some ⟨oc_led_right, od_led_right, .func (PySem.W.fnOf "led_right" "led_right" (defArgs s_led_right) (defBody s_led_right) (defScope s_led_right) .none kV_led_right dc_led_right pm_led_right an_led_right cd_led_right ct_led_right), sl_led_right⟩)
    (c_led_right : PySem.W.codeIn K cd_led_right "led_right" = true)
    (k_led_right : PySem.W.keepIn K (.ref a_led_right) = true)
    (n_led_left : PySem.W.nsIn K mainGlobals "led_left" = some (some (.ref a_led_left)))
    (l_led_left : K.lookup a_led_left = some ⟨oc_led_left, od_led_left, .func (PySem.W.fnOf "led_left" "led_left" (defArgs s_led_left) (defBody s_led_left) (defScope s_led_left) .none kV_led_left dc_led_left pm_led_left an_led_left cd_led_left ct_led_left), sl_led_left⟩)
    (c_led_left : PySem.W.codeIn K cd_led_left "led_left" = true)
    (k_led_left : PySem.W.keepIn K (.ref a_led_left) = true)
    (n_put_new : PySem.W.nsIn K mainGlobals "put_new" = some (some (.ref a_put_new)))
    (l_put_new : K.lookup a_put_new = some ⟨oc_put_new, od_put_new, .func (PySem.W.fnOf "put_new" "put_new" (defArgs s_put_new) (defBody s_put_new) (defScope s_put_new) .none kV_put_new dc_put_new pm_put_new an_put_new cd_put_new ct_put_new), sl_put_new⟩)
    (c_put_new : PySem.W.codeIn K cd_put_new "put_new" = true)
    (k_put_new : PySem.W.keepIn K (.ref a_put_new) = true)
    (n_grown : PySem.W.nsIn K mainGlobals "grown" = some (some (.ref a_grown)))
    (l_grown : K.lookup a_grown = some ⟨oc_grown, od_grown, .func (PySem.W.fnOf "grown" "grown" (defArgs s_grown) (defBody s_grown) (defScope s_grown) .none kV_grown dc_grown pm_grown an_grown cd_grown ct_grown), sl_grown⟩)
    (c_grown : PySem.W.codeIn K cd_grown "grown" = true)
    (k_grown : PySem.W.keepIn K (.ref a_grown) = true)
    (n_least_told : PySem.W.nsIn K mainGlobals "least_told" = some (some (.ref a_least_told)))
    (l_least_told : K.lookup a_least_told = some ⟨oc_least_told, od_least_told, .func (PySem.W.fnOf "least_told" "least_told" (defArgs s_least_told) (defBody s_least_told) (defScope s_least_told) .none kV_least_told dc_least_told pm_least_told an_least_told cd_least_told ct_least_told), sl_least_told⟩)
    (c_least_told : PySem.W.codeIn K cd_least_told "least_told" = true)
    (k_least_told : PySem.W.keepIn K (.ref a_least_told) = true)
    (n_shut_paper : PySem.W.nsIn K mainGlobals "shut_paper" = some (some (.ref a_shut_paper)))
    (l_shut_paper : K.lookup a_shut_paper = some ⟨oc_shut_paper, od_shut_paper, .func (PySem.W.fnOf "shut_paper" "shut_paper" (defArgs s_shut_paper) (defBody s_shut_paper) (defScope s_shut_paper) .none kV_shut_paper dc_shut_paper pm_shut_paper an_shut_paper cd_shut_paper ct_shut_paper), sl_shut_paper⟩)
    (c_shut_paper : PySem.W.codeIn K cd_shut_paper "shut_paper" = true)
    (k_shut_paper : PySem.W.keepIn K (.ref a_shut_paper) = true)
    (n_plain : PySem.W.nsIn K mainGlobals "plain" = some (some (.ref a_plain)))
    (l_plain : K.lookup a_plain = some ⟨oc_plain, od_plain, .func (PySem.W.fnOf "plain" "plain" (defArgs s_plain) (defBody s_plain) (defScope s_plain) .none kV_plain dc_plain pm_plain an_plain cd_plain ct_plain), sl_plain⟩)
    (c_plain : PySem.W.codeIn K cd_plain "plain" = true)
    (k_plain : PySem.W.keepIn K (.ref a_plain) = true)
    (n_Log_init : PySem.W.findIn K (.ref C_Log) "__init__" = some (some (.ref a_Log_init)))
    (i_Log_init : PySem.W.isFn K (.ref a_Log_init) = true)
    (l_Log_init : K.lookup a_Log_init = some ⟨oc_Log_init, od_Log_init, .func (PySem.W.fnOf "__init__" "Log.__init__" (defArgs s_Log_init) (defBody s_Log_init) (defScope s_Log_init) .none kV_Log_init dc_Log_init pm_Log_init an_Log_init cd_Log_init ct_Log_init), sl_Log_init⟩)
    (c_Log_init : PySem.W.codeIn K cd_Log_init "Log.__init__" = true)
    (k_Log_init : PySem.W.keepIn K (.ref a_Log_init) = true)
    (n_Log_last : PySem.W.findIn K (.ref C_Log) "last" = some (some (.ref a_Log_last)))
    (i_Log_last : PySem.W.isFn K (.ref a_Log_last) = true)
    (l_Log_last : K.lookup a_Log_last = some ⟨oc_Log_last, od_Log_last, .func (PySem.W.fnOf "last" "Log.last" (defArgs s_Log_last) (defBody s_Log_last) (defScope s_Log_last) .none kV_Log_last dc_Log_last pm_Log_last an_Log_last cd_Log_last ct_Log_last), sl_Log_last⟩)
    (c_Log_last : PySem.W.codeIn K cd_Log_last "Log.last" = true)
    (k_Log_last : PySem.W.keepIn K (.ref a_Log_last) = true)
    (n_Log_same : PySem.W.findIn K (.ref C_Log) "same" = some (some (.ref a_Log_same)))
    (i_Log_same : PySem.W.isFn K (.ref a_Log_same) = true)
    (l_Log_same : K.lookup a_Log_same = some ⟨oc_Log_same, od_Log_same, .func (PySem.W.fnOf "same" "Log.same" (defArgs s_Log_same) (defBody s_Log_same) (defScope s_Log_same) .none kV_Log_same dc_Log_same pm_Log_same an_Log_same cd_Log_same ct_Log_same), sl_Log_same⟩)
    (c_Log_same : PySem.W.codeIn K cd_Log_same "Log.same" = true)
    (k_Log_same : PySem.W.keepIn K (.ref a_Log_same) = true)
    (n_ring : PySem.W.nsIn K mainGlobals "ring" = some (some (.ref a_ring)))
    (l_ring : K.lookup a_ring = some ⟨oc_ring, od_ring, .func (PySem.W.fnOf "ring" "ring" (defArgs s_ring) (defBody s_ring) (defScope s_ring) .none kV_ring dc_ring pm_ring an_ring cd_ring ct_ring), sl_ring⟩)
    (c_ring : PySem.W.codeIn K cd_ring "ring" = true)
    (k_ring : PySem.W.keepIn K (.ref a_ring) = true)
    (n_Log_drifts : PySem.W.findIn K (.ref C_Log) "drifts" = some (some (.ref a_Log_drifts)))
    (i_Log_drifts : PySem.W.isFn K (.ref a_Log_drifts) = true)
    (l_Log_drifts : K.lookup a_Log_drifts = some ⟨oc_Log_drifts, od_Log_drifts, .func (PySem.W.fnOf "drifts" "Log.drifts" (defArgs s_Log_drifts) (defBody s_Log_drifts) (defScope s_Log_drifts) .none kV_Log_drifts dc_Log_drifts pm_Log_drifts an_Log_drifts cd_Log_drifts ct_Log_drifts), sl_Log_drifts⟩)
    (c_Log_drifts : PySem.W.codeIn K cd_Log_drifts "Log.drifts" = true)
    (k_Log_drifts : PySem.W.keepIn K (.ref a_Log_drifts) = true)
    (n_drift : PySem.W.nsIn K mainGlobals "drift" = some (some (.ref a_drift)))
    (l_drift : K.lookup a_drift = some ⟨oc_drift, od_drift, .func (PySem.W.fnOf "drift" "drift" (defArgs s_drift) (defBody s_drift) (defScope s_drift) .none kV_drift dc_drift pm_drift an_drift cd_drift ct_drift), sl_drift⟩)
    (c_drift : PySem.W.codeIn K cd_drift "drift" = true)
    (k_drift : PySem.W.keepIn K (.ref a_drift) = true)
    (n_ends_of : PySem.W.nsIn K mainGlobals "ends_of" = some (some (.ref a_ends_of)))
    (l_ends_of : K.lookup a_ends_of = some ⟨oc_ends_of, od_ends_of, .func (PySem.W.fnOf "ends_of" "ends_of" (defArgs s_ends_of) (defBody s_ends_of) (defScope s_ends_of) .none kV_ends_of dc_ends_of pm_ends_of an_ends_of cd_ends_of ct_ends_of), sl_ends_of⟩)
    (c_ends_of : PySem.W.codeIn K cd_ends_of "ends_of" = true)
    (k_ends_of : PySem.W.keepIn K (.ref a_ends_of) = true)
    (n_ahead_of : PySem.W.nsIn K mainGlobals "ahead_of" = some (some (.ref a_ahead_of)))
    (l_ahead_of : K.lookup a_ahead_of = some ⟨oc_ahead_of, od_ahead_of, .func (PySem.W.fnOf "ahead_of" "ahead_of" (defArgs s_ahead_of) (defBody s_ahead_of) (defScope s_ahead_of) .none kV_ahead_of dc_ahead_of pm_ahead_of an_ahead_of cd_ahead_of ct_ahead_of), sl_ahead_of⟩)
    (c_ahead_of : PySem.W.codeIn K cd_ahead_of "ahead_of" = true)
    (k_ahead_of : PySem.W.keepIn K (.ref a_ahead_of) = true)
    (n_gone_back : PySem.W.nsIn K mainGlobals "gone_back" = some (some (.ref a_gone_back)))
    (l_gone_back : K.lookup a_gone_back = some ⟨oc_gone_back, od_gone_back, .func (PySem.W.fnOf "gone_back" "gone_back" (defArgs s_gone_back) (defBody s_gone_back) (defScope s_gone_back) .none kV_gone_back dc_gone_back pm_gone_back an_gone_back cd_gone_back ct_gone_back), sl_gone_back⟩)
    (c_gone_back : PySem.W.codeIn K cd_gone_back "gone_back" = true)
    (k_gone_back : PySem.W.keepIn K (.ref a_gone_back) = true)
    (n_first_empty : PySem.W.nsIn K mainGlobals "first_empty" = some (some (.ref a_first_empty)))
    (l_first_empty : K.lookup a_first_empty = some ⟨oc_first_empty, od_first_empty, .func (PySem.W.fnOf "first_empty" "first_empty" (defArgs s_first_empty) (defBody s_first_empty) (defScope s_first_empty) .none kV_first_empty dc_first_empty pm_first_empty an_first_empty cd_first_empty ct_first_empty), sl_first_empty⟩)
    (c_first_empty : PySem.W.codeIn K cd_first_empty "first_empty" = true)
    (k_first_empty : PySem.W.keepIn K (.ref a_first_empty) = true)
    (n_ends_behind : PySem.W.nsIn K mainGlobals "ends_behind" = some (some (.ref a_ends_behind)))
    (l_ends_behind : K.lookup a_ends_behind = some ⟨oc_ends_behind, od_ends_behind, .func (PySem.W.fnOf "ends_behind" "ends_behind" (defArgs s_ends_behind) (defBody s_ends_behind) (defScope s_ends_behind) .none kV_ends_behind dc_ends_behind pm_ends_behind an_ends_behind cd_ends_behind ct_ends_behind), sl_ends_behind⟩)
    (c_ends_behind : PySem.W.codeIn K cd_ends_behind "ends_behind" = true)
    (k_ends_behind : PySem.W.keepIn K (.ref a_ends_behind) = true)
    (n_is_back : PySem.W.nsIn K mainGlobals "is_back" = some (some (.ref a_is_back)))
    (l_is_back : K.lookup a_is_back = some ⟨oc_is_back, od_is_back, .func (PySem.W.fnOf "is_back" "is_back" (defArgs s_is_back) (defBody s_is_back) (defScope s_is_back) .none kV_is_back dc_is_back pm_is_back an_is_back cd_is_back ct_is_back), sl_is_back⟩)
    (c_is_back : PySem.W.codeIn K cd_is_back "is_back" = true)
    (k_is_back : PySem.W.keepIn K (.ref a_is_back) = true)
    (n_no_back : PySem.W.nsIn K mainGlobals "no_back" = some (some (.ref a_no_back)))
    (l_no_back : K.lookup a_no_back = some ⟨oc_no_back, od_no_back, .func (PySem.W.fnOf "no_back" "no_back" (defArgs s_no_back) (defBody s_no_back) (defScope s_no_back) .none kV_no_back dc_no_back pm_no_back an_no_back cd_no_back ct_no_back), sl_no_back⟩)
    (c_no_back : PySem.W.codeIn K cd_no_back "no_back" = true)
    (k_no_back : PySem.W.keepIn K (.ref a_no_back) = true)
    (n_sorted_as : PySem.W.nsIn K mainGlobals "sorted_as" = some (some (.ref a_sorted_as)))
    (l_sorted_as : K.lookup a_sorted_as = some ⟨oc_sorted_as, od_sorted_as, .func (PySem.W.fnOf "sorted_as" "sorted_as" (defArgs s_sorted_as) (defBody s_sorted_as) (defScope s_sorted_as) .none kV_sorted_as dc_sorted_as pm_sorted_as an_sorted_as cd_sorted_as ct_sorted_as), sl_sorted_as⟩)
    (c_sorted_as : PySem.W.codeIn K cd_sorted_as "sorted_as" = true)
    (k_sorted_as : PySem.W.keepIn K (.ref a_sorted_as) = true)
    (n_met_at : PySem.W.nsIn K mainGlobals "met_at" = some (some (.ref a_met_at)))
    (l_met_at : K.lookup a_met_at = some ⟨oc_met_at, od_met_at, .func (PySem.W.fnOf "met_at" "met_at" (defArgs s_met_at) (defBody s_met_at) (defScope s_met_at) .none kV_met_at dc_met_at pm_met_at an_met_at cd_met_at ct_met_at), sl_met_at⟩)
    (c_met_at : PySem.W.codeIn K cd_met_at "met_at" = true)
    (k_met_at : PySem.W.keepIn K (.ref a_met_at) = true)
    (n_all_entries : PySem.W.nsIn K mainGlobals "all_entries" = some (some (.ref a_all_entries)))
    (l_all_entries : K.lookup a_all_entries = some ⟨oc_all_entries, od_all_entries, .func (PySem.W.fnOf "all_entries" "all_entries" (defArgs s_all_entries) (defBody s_all_entries) (defScope s_all_entries) .none kV_all_entries dc_all_entries pm_all_entries an_all_entries cd_all_entries ct_all_entries), sl_all_entries⟩)
    (c_all_entries : PySem.W.codeIn K cd_all_entries "all_entries" = true)
    (k_all_entries : PySem.W.keepIn K (.ref a_all_entries) = true)
    (n_named_signs : PySem.W.nsIn K mainGlobals "named_signs" = some (some (.ref a_named_signs)))
    (l_named_signs : K.lookup a_named_signs = some ⟨oc_named_signs, od_named_signs, .func (PySem.W.fnOf "named_signs" "named_signs" (defArgs s_named_signs) (defBody s_named_signs) (defScope s_named_signs) .none kV_named_signs dc_named_signs pm_named_signs an_named_signs cd_named_signs ct_named_signs), sl_named_signs⟩)
    (c_named_signs : PySem.W.codeIn K cd_named_signs "named_signs" = true)
    (k_named_signs : PySem.W.keepIn K (.ref a_named_signs) = true)
    (n_with_entry : PySem.W.nsIn K mainGlobals "with_entry" = some (some (.ref a_with_entry)))
    (l_with_entry : K.lookup a_with_entry = some ⟨oc_with_entry, od_with_entry, .func (PySem.W.fnOf "with_entry" "with_entry" (defArgs s_with_entry) (defBody s_with_entry) (defScope s_with_entry) .none kV_with_entry dc_with_entry pm_with_entry an_with_entry cd_with_entry ct_with_entry), sl_with_entry⟩)
    (c_with_entry : PySem.W.codeIn K cd_with_entry "with_entry" = true)
    (k_with_entry : PySem.W.keepIn K (.ref a_with_entry) = true)
    (n_named_rows : PySem.W.nsIn K mainGlobals "named_rows" = some (some (.ref a_named_rows)))
    (l_named_rows : K.lookup a_named_rows = some ⟨oc_named_rows, od_named_rows, .func (PySem.W.fnOf "named_rows" "named_rows" (defArgs s_named_rows) (defBody s_named_rows) (defScope s_named_rows) .none kV_named_rows dc_named_rows pm_named_rows an_named_rows cd_named_rows ct_named_rows), sl_named_rows⟩)
    (c_named_rows : PySem.W.codeIn K cd_named_rows "named_rows" = true)
    (k_named_rows : PySem.W.keepIn K (.ref a_named_rows) = true)
    (n_children : PySem.W.nsIn K mainGlobals "children" = some (some (.ref a_children)))
    (l_children : K.lookup a_children = some ⟨oc_children, od_children, .func (PySem.W.fnOf "children" "children" (defArgs s_children) (defBody s_children) (defScope s_children) .none kV_children dc_children pm_children an_children cd_children ct_children), sl_children⟩)
    (c_children : PySem.W.codeIn K cd_children "children" = true)
    (k_children : PySem.W.keepIn K (.ref a_children) = true)
    (n_tree : PySem.W.nsIn K mainGlobals "tree" = some (some (.ref a_tree)))
    (l_tree : K.lookup a_tree = some ⟨oc_tree, od_tree, .func (PySem.W.fnOf "tree" "tree" (defArgs s_tree) (defBody s_tree) (defScope s_tree) .none kV_tree dc_tree pm_tree an_tree cd_tree ct_tree), sl_tree⟩)
    (c_tree : PySem.W.codeIn K cd_tree "tree" = true)
    (k_tree : PySem.W.keepIn K (.ref a_tree) = true)
    (n_L_met : PySem.W.nsIn K mainGlobals "_law_met" = some (some (.ref a_L_met)))
    (l_L_met : K.lookup a_L_met = some ⟨oc_L_met, od_L_met, .func (PySem.W.fnOf "_law_met" "_law_met" (defArgs s_L_met) (defBody s_L_met) (defScope s_L_met) .none kV_L_met dc_L_met pm_L_met an_L_met cd_L_met ct_L_met), sl_L_met⟩)
    (c_L_met : PySem.W.codeIn K cd_L_met "_law_met" = true)
    (k_L_met : PySem.W.keepIn K (.ref a_L_met) = true)
    (n_L_named_things : PySem.W.nsIn K mainGlobals "_law_named_things" = some (some (.ref a_L_named_things)))
    (l_L_named_things : K.lookup a_L_named_things = some ⟨oc_L_named_things, od_L_named_things, .func (PySem.W.fnOf "_law_named_things" "_law_named_things" (defArgs s_L_named_things) (defBody s_L_named_things) (defScope s_L_named_things) .none kV_L_named_things dc_L_named_things pm_L_named_things an_L_named_things cd_L_named_things ct_L_named_things), sl_L_named_things⟩)
    (c_L_named_things : PySem.W.codeIn K cd_L_named_things "_law_named_things" = true)
    (k_L_named_things : PySem.W.keepIn K (.ref a_L_named_things) = true)
    (n_L_children : PySem.W.nsIn K mainGlobals "_law_children" = some (some (.ref a_L_children)))
    (l_L_children : K.lookup a_L_children = some ⟨oc_L_children, od_L_children, .func (PySem.W.fnOf "_law_children" "_law_children" (defArgs s_L_children) (defBody s_L_children) (defScope s_L_children) .none kV_L_children dc_L_children pm_L_children an_L_children cd_L_children ct_L_children), sl_L_children⟩)
    (c_L_children : PySem.W.codeIn K cd_L_children "_law_children" = true)
    (k_L_children : PySem.W.keepIn K (.ref a_L_children) = true)
    (n_L_nodes : PySem.W.nsIn K mainGlobals "_law_nodes" = some (some (.ref a_L_nodes)))
    (l_L_nodes : K.lookup a_L_nodes = some ⟨oc_L_nodes, od_L_nodes, .func (PySem.W.fnOf "_law_nodes" "_law_nodes" (defArgs s_L_nodes) (defBody s_L_nodes) (defScope s_L_nodes) .none kV_L_nodes dc_L_nodes pm_L_nodes an_L_nodes cd_L_nodes ct_L_nodes), sl_L_nodes⟩)
    (c_L_nodes : PySem.W.codeIn K cd_L_nodes "_law_nodes" = true)
    (k_L_nodes : PySem.W.keepIn K (.ref a_L_nodes) = true)
    (n_L_plainly : PySem.W.nsIn K mainGlobals "_law_plainly" = some (some (.ref a_L_plainly)))
    (l_L_plainly : K.lookup a_L_plainly = some ⟨oc_L_plainly, od_L_plainly, .func (PySem.W.fnOf "_law_plainly" "_law_plainly" (defArgs s_L_plainly) (defBody s_L_plainly) (defScope s_L_plainly) .none kV_L_plainly dc_L_plainly pm_L_plainly an_L_plainly cd_L_plainly ct_L_plainly), sl_L_plainly⟩)
    (c_L_plainly : PySem.W.codeIn K cd_L_plainly "_law_plainly" = true)
    (k_L_plainly : PySem.W.keepIn K (.ref a_L_plainly) = true)
    (n_is_ring : PySem.W.nsIn K mainGlobals "is_ring" = some (some (.ref a_is_ring)))
    (l_is_ring : K.lookup a_is_ring = some ⟨oc_is_ring, od_is_ring, .func (PySem.W.fnOf "is_ring" "is_ring" (defArgs s_is_ring) (defBody s_is_ring) (defScope s_is_ring) .none kV_is_ring dc_is_ring pm_is_ring an_is_ring cd_is_ring ct_is_ring), sl_is_ring⟩)
    (c_is_ring : PySem.W.codeIn K cd_is_ring "is_ring" = true)
    (k_is_ring : PySem.W.keepIn K (.ref a_is_ring) = true)
    (n_is_drift : PySem.W.nsIn K mainGlobals "is_drift" = some (some (.ref a_is_drift)))
    (l_is_drift : K.lookup a_is_drift = some ⟨oc_is_drift, od_is_drift, .func (PySem.W.fnOf "is_drift" "is_drift" (defArgs s_is_drift) (defBody s_is_drift) (defScope s_is_drift) .none kV_is_drift dc_is_drift pm_is_drift an_is_drift cd_is_drift ct_is_drift), sl_is_drift⟩)
    (c_is_drift : PySem.W.codeIn K cd_is_drift "is_drift" = true)
    (k_is_drift : PySem.W.keepIn K (.ref a_is_drift) = true)
    (n_are_words : PySem.W.nsIn K mainGlobals "are_words" = some (some (.ref a_are_words)))
    (l_are_words : K.lookup a_are_words = some ⟨oc_are_words, od_are_words, .func (PySem.W.fnOf "are_words" "are_words" (defArgs s_are_words) (defBody s_are_words) (defScope s_are_words) .none kV_are_words dc_are_words pm_are_words an_are_words cd_are_words ct_are_words), sl_are_words⟩)
    (c_are_words : PySem.W.codeIn K cd_are_words "are_words" = true)
    (k_are_words : PySem.W.keepIn K (.ref a_are_words) = true)
    (n_are_middles : PySem.W.nsIn K mainGlobals "are_middles" = some (some (.ref a_are_middles)))
    (l_are_middles : K.lookup a_are_middles = some ⟨oc_are_middles, od_are_middles, .func (PySem.W.fnOf "are_middles" "are_middles" (defArgs s_are_middles) (defBody s_are_middles) (defScope s_are_middles) .none kV_are_middles dc_are_middles pm_are_middles an_are_middles cd_are_middles ct_are_middles), sl_are_middles⟩)
    (c_are_middles : PySem.W.codeIn K cd_are_middles "are_middles" = true)
    (k_are_middles : PySem.W.keepIn K (.ref a_are_middles) = true)
    (n_shows_shut : PySem.W.nsIn K mainGlobals "shows_shut" = some (some (.ref a_shows_shut)))
    (l_shows_shut : K.lookup a_shows_shut = some ⟨oc_shows_shut, od_shows_shut, .func (PySem.W.fnOf "shows_shut" "shows_shut" (defArgs s_shows_shut) (defBody s_shows_shut) (defScope s_shows_shut) .none kV_shows_shut dc_shows_shut pm_shows_shut an_shows_shut cd_shows_shut ct_shows_shut), sl_shows_shut⟩)
    (c_shows_shut : PySem.W.codeIn K cd_shows_shut "shows_shut" = true)
    (k_shows_shut : PySem.W.keepIn K (.ref a_shows_shut) = true)
    (n_shows : PySem.W.nsIn K mainGlobals "shows" = some (some (.ref a_shows)))
    (l_shows : K.lookup a_shows = some ⟨oc_shows, od_shows, .func (PySem.W.fnOf "shows" "shows" (defArgs s_shows) (defBody s_shows) (defScope s_shows) .none kV_shows dc_shows pm_shows an_shows cd_shows ct_shows), sl_shows⟩)
    (c_shows : PySem.W.codeIn K cd_shows "shows" = true)
    (k_shows : PySem.W.keepIn K (.ref a_shows) = true)
    (n_law : PySem.W.nsIn K mainGlobals "law" = some (some (.ref a_law)))
    (l_law : K.lookup a_law = some ⟨oc_law, od_law, .func (PySem.W.fnOf "law" "law" (defArgs s_law) (defBody s_law) (defScope s_law) .none kV_law dc_law pm_law an_law cd_law ct_law), sl_law⟩)
    (c_law : PySem.W.codeIn K cd_law "law" = true)
    (k_law : PySem.W.keepIn K (.ref a_law) = true)
    (pg_Goer : PySem.W.plainGet K C_Goer Str.empty = true)
    (hd_Goer : PySem.W.hasDictIn K C_Goer = true)
    (po_Goer : PySem.W.plainOver K C_Goer = true)
    (sa_Goer : PySem.W.findIn K (.ref C_Goer) "__setattr__" = some (some (.builtin "object.__setattr__")))
    (mk_Goer : PySem.W.makesIn K C_Goer = true)
    (kc_Goer : PySem.W.keepIn K (.ref C_Goer) = true)
    (f_Goer_table : PySem.W.findIn K (.ref C_Goer) "table" = some none)
    (f_Goer_row : PySem.W.findIn K (.ref C_Goer) "row" = some none)
    (f_Goer_spot : PySem.W.findIn K (.ref C_Goer) "spot" = some none)
    (f_Goer_signs : PySem.W.findIn K (.ref C_Goer) "signs" = some none)
    (f_Goer_steps : PySem.W.findIn K (.ref C_Goer) "steps" = some none)
    (pg_Log : PySem.W.plainGet K C_Log Str.empty = true)
    (hd_Log : PySem.W.hasDictIn K C_Log = true)
    (po_Log : PySem.W.plainOver K C_Log = true)
    (sa_Log : PySem.W.findIn K (.ref C_Log) "__setattr__" = some (some (.builtin "object.__setattr__")))
    (mk_Log : PySem.W.makesIn K C_Log = true)
    (kc_Log : PySem.W.keepIn K (.ref C_Log) = true)
    (f_Log_rows : PySem.W.findIn K (.ref C_Log) "rows" = some none)
    (f_Log_places : PySem.W.findIn K (.ref C_Log) "places" = some none)
    (f_Log_strips : PySem.W.findIn K (.ref C_Log) "strips" = some none)
    (f_Log_has_ended : PySem.W.findIn K (.ref C_Log) "has_ended" = some none)
    (n_MOST_ROWS_tree : PySem.W.nsIn K mainGlobals "MOST_ROWS_tree" = some (some (.int 4 tk_MOST_ROWS_tree)))
    (n_MOST_ENTRIES : PySem.W.nsIn K mainGlobals "MOST_ENTRIES" = some (some (.int 4 tk_MOST_ENTRIES)))
    (n_MOST_ROWS_machines : PySem.W.nsIn K mainGlobals "MOST_ROWS_machines" = some (some (.int 4 tk_MOST_ROWS_machines)))
    (n_MOST_SIGNS : PySem.W.nsIn K mainGlobals "MOST_SIGNS" = some (some (.int 4 tk_MOST_SIGNS)))
    (n_MOST_WORDS : PySem.W.nsIn K mainGlobals "MOST_WORDS" = some (some (.int 16 tk_MOST_WORDS)))
    (n_MOST_PARTS : PySem.W.nsIn K mainGlobals "MOST_PARTS" = some (some (.int 300 tk_MOST_PARTS)))
    (n_MOST_DEPTH : PySem.W.nsIn K mainGlobals "MOST_DEPTH" = some (some (.int 8 tk_MOST_DEPTH)))
    (n_MOST_STEPS : PySem.W.nsIn K mainGlobals "MOST_STEPS" = some (some (.int 200 tk_MOST_STEPS)))
    (n_MOST_LOOKED : PySem.W.nsIn K mainGlobals "MOST_LOOKED" = some (some (.int 60 tk_MOST_LOOKED)))
    (n_MOST_DEEP : PySem.W.nsIn K mainGlobals "MOST_DEEP" = some (some (.int 8 tk_MOST_DEEP)))
    (z_range : PySem.W.nsIn K mainGlobals "range" = some none)
    (z_len : PySem.W.nsIn K mainGlobals "len" = some none)
    (z_all : PySem.W.nsIn K mainGlobals "all" = some none)
    (z_dict : PySem.W.nsIn K mainGlobals "dict" = some none)
    (z_sorted : PySem.W.nsIn K mainGlobals "sorted" = some none)
    (z_list : PySem.W.nsIn K mainGlobals "list" = some none)
    (z_int : PySem.W.nsIn K mainGlobals "int" = some none)
    (z_min : PySem.W.nsIn K mainGlobals "min" = some none)
    (z_max : PySem.W.nsIn K mainGlobals "max" = some none)
    (z_tuple : PySem.W.nsIn K mainGlobals "tuple" = some none)
    (z_sum : PySem.W.nsIn K mainGlobals "sum" = some none)
    (z_isinstance : PySem.W.nsIn K mainGlobals "isinstance" = some none)
    (z_str : PySem.W.nsIn K mainGlobals "str" = some none)
    (z_bool : PySem.W.nsIn K mainGlobals "bool" = some none)
    (z_enumerate : PySem.W.nsIn K mainGlobals "enumerate" = some none) : Tx K mg where
  a_L_mixed := a_L_mixed
  fd_L_mixed := PySem.W.fnOf "_law_mixed" "_law_mixed" (defArgs s_L_mixed) (defBody s_L_mixed) (defScope s_L_mixed) .none kV_L_mixed dc_L_mixed pm_L_mixed an_L_mixed cd_L_mixed ct_L_mixed
  F_L_mixed := fun_mk l_L_mixed c_L_mixed k_L_mixed
  b_L_mixed := (fun_mk (st := s_L_mixed) l_L_mixed c_L_mixed k_L_mixed).binds (ps := ["_law_cell", "_law_k"]) fun _ _ _ _ _ _ us hl => match us, hl with | [_, _], _ => rfl
  m_L_mixed := PySem.W.mg_of X G n_L_mixed
  a_L_purse := a_L_purse
  fd_L_purse := PySem.W.fnOf "_law_purse" "_law_purse" (defArgs s_L_purse) (defBody s_L_purse) (defScope s_L_purse) .none kV_L_purse dc_L_purse pm_L_purse an_L_purse cd_L_purse ct_L_purse
  F_L_purse := fun_mk l_L_purse c_L_purse k_L_purse
  b_L_purse := (fun_mk (st := s_L_purse) l_L_purse c_L_purse k_L_purse).binds (ps := ["_law_script"]) fun _ _ _ _ _ _ us hl => match us, hl with | [_], _ => rfl
  m_L_purse := PySem.W.mg_of X G n_L_purse
  a_L_draw := a_L_draw
  fd_L_draw := PySem.W.fnOf "_law_draw" "_law_draw" (defArgs s_L_draw) (defBody s_L_draw) (defScope s_L_draw) .none kV_L_draw dc_L_draw pm_L_draw an_L_draw cd_L_draw ct_L_draw
  F_L_draw := fun_mk l_L_draw c_L_draw k_L_draw
  b_L_draw := (fun_mk (st := s_L_draw) l_L_draw c_L_draw k_L_draw).binds (ps := ["_law_purse_here", "_law_out_of"]) fun _ _ _ _ _ _ us hl => match us, hl with | [_, _], _ => rfl
  m_L_draw := PySem.W.mg_of X G n_L_draw
  a_must_size := a_must_size
  fd_must_size := PySem.W.fnOf "must_size" "must_size" (defArgs s_must_size) (defBody s_must_size) (defScope s_must_size) .none kV_must_size dc_must_size pm_must_size an_must_size cd_must_size ct_must_size
  F_must_size := fun_mk l_must_size c_must_size k_must_size
  b_must_size := (fun_mk (st := s_must_size) l_must_size c_must_size k_must_size).binds (ps := ["rows", "signs"]) fun _ _ _ _ _ _ us hl => match us, hl with | [_, _], _ => rfl
  m_must_size := PySem.W.mg_of X G n_must_size
  a_empty_machine := a_empty_machine
  fd_empty_machine := PySem.W.fnOf "empty_machine" "empty_machine" (defArgs s_empty_machine) (defBody s_empty_machine) (defScope s_empty_machine) .none kV_empty_machine dc_empty_machine pm_empty_machine an_empty_machine cd_empty_machine ct_empty_machine
  F_empty_machine := fun_mk l_empty_machine c_empty_machine k_empty_machine
  b_empty_machine := (fun_mk (st := s_empty_machine) l_empty_machine c_empty_machine k_empty_machine).binds (ps := ["rows", "signs"]) fun _ _ _ _ _ _ us hl => match us, hl with | [_, _], _ => rfl
  m_empty_machine := PySem.W.mg_of X G n_empty_machine
  a_is_entry := a_is_entry
  fd_is_entry := PySem.W.fnOf "is_entry" "is_entry" (defArgs s_is_entry) (defBody s_is_entry) (defScope s_is_entry) .none kV_is_entry dc_is_entry pm_is_entry an_is_entry cd_is_entry ct_is_entry
  F_is_entry := fun_mk l_is_entry c_is_entry k_is_entry
  b_is_entry := (fun_mk (st := s_is_entry) l_is_entry c_is_entry k_is_entry).binds (ps := ["entry", "rows", "signs"]) fun _ _ _ _ _ _ us hl => match us, hl with | [_, _, _], _ => rfl
  m_is_entry := PySem.W.mg_of X G n_is_entry
  a_is_machine := a_is_machine
  fd_is_machine := PySem.W.fnOf "is_machine" "is_machine" (defArgs s_is_machine) (defBody s_is_machine) (defScope s_is_machine) .none kV_is_machine dc_is_machine pm_is_machine an_is_machine cd_is_machine ct_is_machine
  F_is_machine := fun_mk l_is_machine c_is_machine k_is_machine
  b_is_machine := (fun_mk (st := s_is_machine) l_is_machine c_is_machine k_is_machine).binds (ps := ["machine"]) fun _ _ _ _ _ _ us hl => match us, hl with | [_], _ => rfl
  m_is_machine := PySem.W.mg_of X G n_is_machine
  a_must_machine := a_must_machine
  fd_must_machine := PySem.W.fnOf "must_machine" "must_machine" (defArgs s_must_machine) (defBody s_must_machine) (defScope s_must_machine) .none kV_must_machine dc_must_machine pm_must_machine an_must_machine cd_must_machine ct_must_machine
  F_must_machine := fun_mk l_must_machine c_must_machine k_must_machine
  b_must_machine := (fun_mk (st := s_must_machine) l_must_machine c_must_machine k_must_machine).binds (ps := ["machine"]) fun _ _ _ _ _ _ us hl => match us, hl with | [_], _ => rfl
  m_must_machine := PySem.W.mg_of X G n_must_machine
  a_Goer_init := a_Goer_init
  fd_Goer_init := PySem.W.fnOf "__init__" "Goer.__init__" (defArgs s_Goer_init) (defBody s_Goer_init) (defScope s_Goer_init) .none kV_Goer_init dc_Goer_init pm_Goer_init an_Goer_init cd_Goer_init ct_Goer_init
  F_Goer_init := fun_mk l_Goer_init c_Goer_init k_Goer_init
  b_Goer_init := (fun_mk (st := s_Goer_init) l_Goer_init c_Goer_init k_Goer_init).binds (ps := ["self", "machine", "setup"]) fun _ _ _ _ _ _ us hl => match us, hl with | [_, _, _], _ => rfl
  a_Goer_entry := a_Goer_entry
  fd_Goer_entry := PySem.W.fnOf "entry" "Goer.entry" (defArgs s_Goer_entry) (defBody s_Goer_entry) (defScope s_Goer_entry) .none kV_Goer_entry dc_Goer_entry pm_Goer_entry an_Goer_entry cd_Goer_entry ct_Goer_entry
  F_Goer_entry := fun_mk l_Goer_entry c_Goer_entry k_Goer_entry
  b_Goer_entry := (fun_mk (st := s_Goer_entry) l_Goer_entry c_Goer_entry k_Goer_entry).binds (ps := ["self"]) fun _ _ _ _ _ _ us hl => match us, hl with | [_], _ => rfl
  a_Goer_step := a_Goer_step
  fd_Goer_step := PySem.W.fnOf "step" "Goer.step" (defArgs s_Goer_step) (defBody s_Goer_step) (defScope s_Goer_step) .none kV_Goer_step dc_Goer_step pm_Goer_step an_Goer_step cd_Goer_step ct_Goer_step
  F_Goer_step := fun_mk l_Goer_step c_Goer_step k_Goer_step
  b_Goer_step := (fun_mk (st := s_Goer_step) l_Goer_step c_Goer_step k_Goer_step).binds (ps := ["self"]) fun _ _ _ _ _ _ us hl => match us, hl with | [_], _ => rfl
  a_gone := a_gone
  fd_gone := PySem.W.fnOf "gone" "gone" (defArgs s_gone) (defBody s_gone) (defScope s_gone) .none kV_gone dc_gone pm_gone an_gone cd_gone ct_gone
  F_gone := fun_mk l_gone c_gone k_gone
  b_gone := (fun_mk (st := s_gone) l_gone c_gone k_gone).binds (ps := ["machine", "most"]) fun _ _ _ _ _ _ us hl => match us, hl with | [_, _], _ => rfl
  m_gone := PySem.W.mg_of X G n_gone
  a_told_strip := a_told_strip
  fd_told_strip := PySem.W.fnOf "told_strip" "told_strip" (defArgs s_told_strip) (defBody s_told_strip) (defScope s_told_strip) .none kV_told_strip dc_told_strip pm_told_strip an_told_strip cd_told_strip ct_told_strip
  F_told_strip := fun_mk l_told_strip c_told_strip k_told_strip
  b_told_strip := (fun_mk (st := s_told_strip) l_told_strip c_told_strip k_told_strip).binds (ps := ["signs"]) fun _ _ _ _ _ _ us hl => match us, hl with | [_], _ => rfl
  m_told_strip := PySem.W.mg_of X G n_told_strip
  a_Goer_setup := a_Goer_setup
  fd_Goer_setup := PySem.W.fnOf "setup" "Goer.setup" (defArgs s_Goer_setup) (defBody s_Goer_setup) (defScope s_Goer_setup) .none kV_Goer_setup dc_Goer_setup pm_Goer_setup an_Goer_setup cd_Goer_setup ct_Goer_setup
  F_Goer_setup := fun_mk l_Goer_setup c_Goer_setup k_Goer_setup
  b_Goer_setup := (fun_mk (st := s_Goer_setup) l_Goer_setup c_Goer_setup k_Goer_setup).binds (ps := ["self"]) fun _ _ _ _ _ _ us hl => match us, hl with | [_], _ => rfl
  a_run := a_run
  fd_run := PySem.W.fnOf "run" "run" (defArgs s_run) (defBody s_run) (defScope s_run) .none kV_run dc_run pm_run an_run cd_run ct_run
  F_run := fun_mk l_run c_run k_run
  b_run := (fun_mk (st := s_run) l_run c_run k_run).binds (ps := ["machine", "most"]) fun _ _ _ _ _ _ us hl => match us, hl with | [_, _], _ => rfl
  m_run := PySem.W.mg_of X G n_run
  a_is_width := a_is_width
  fd_is_width := PySem.W.fnOf "is_width" "is_width" (defArgs s_is_width) (defBody s_is_width) (defScope s_is_width) .none kV_is_width dc_is_width pm_is_width an_is_width cd_is_width ct_is_width
  F_is_width := fun_mk l_is_width c_is_width k_is_width
  b_is_width := (fun_mk (st := s_is_width) l_is_width c_is_width k_is_width).binds (ps := ["machine", "width"]) fun _ _ _ _ _ _ us hl => match us, hl with | [_, _], _ => rfl
  m_is_width := PySem.W.mg_of X G n_is_width
  a_entry_for := a_entry_for
  fd_entry_for := PySem.W.fnOf "entry_for" "entry_for" (defArgs s_entry_for) (defBody s_entry_for) (defScope s_entry_for) .none kV_entry_for dc_entry_for pm_entry_for an_entry_for cd_entry_for ct_entry_for
  F_entry_for := fun_mk l_entry_for c_entry_for k_entry_for
  b_entry_for := (fun_mk (st := s_entry_for) l_entry_for c_entry_for k_entry_for).binds (ps := ["machine", "middle"]) fun _ _ _ _ _ _ us hl => match us, hl with | [_, _], _ => rfl
  m_entry_for := PySem.W.mg_of X G n_entry_for
  a_led_right := a_led_right
  fd_led_right := PySem.W.fnOf "led_right" "led_right" (defArgs s_led_right) (defBody s_led_right) (defScope s_led_right) .none kV_led_right dc_led_right pm_led_right an_led_right cd_led_right ct_led_right
  F_led_right := fun_mk l_led_right c_led_right k_led_right
  b_led_right := (fun_mk (st := s_led_right) l_led_right c_led_right k_led_right).binds (ps := ["middle", "put", "row", "rights"]) fun _ _ _ _ _ _ us hl => match us, hl with | [_, _, _, _], _ => rfl
  m_led_right := PySem.W.mg_of X G n_led_right
  a_led_left := a_led_left
  fd_led_left := PySem.W.fnOf "led_left" "led_left" (defArgs s_led_left) (defBody s_led_left) (defScope s_led_left) .none kV_led_left dc_led_left pm_led_left an_led_left cd_led_left ct_led_left
  F_led_left := fun_mk l_led_left c_led_left k_led_left
  b_led_left := (fun_mk (st := s_led_left) l_led_left c_led_left k_led_left).binds (ps := ["middle", "put", "row", "lefts"]) fun _ _ _ _ _ _ us hl => match us, hl with | [_, _, _, _], _ => rfl
  m_led_left := PySem.W.mg_of X G n_led_left
  a_put_new := a_put_new
  fd_put_new := PySem.W.fnOf "put_new" "put_new" (defArgs s_put_new) (defBody s_put_new) (defScope s_put_new) .none kV_put_new dc_put_new pm_put_new an_put_new cd_put_new ct_put_new
  F_put_new := fun_mk l_put_new c_put_new k_put_new
  b_put_new := (fun_mk (st := s_put_new) l_put_new c_put_new k_put_new).binds (ps := ["found", "things"]) fun _ _ _ _ _ _ us hl => match us, hl with | [_, _], _ => rfl
  m_put_new := PySem.W.mg_of X G n_put_new
  a_grown := a_grown
  fd_grown := PySem.W.fnOf "grown" "grown" (defArgs s_grown) (defBody s_grown) (defScope s_grown) .none kV_grown dc_grown pm_grown an_grown cd_grown ct_grown
  F_grown := fun_mk l_grown c_grown k_grown
  b_grown := (fun_mk (st := s_grown) l_grown c_grown k_grown).binds (ps := ["machine", "lefts", "rights", "middles"]) fun _ _ _ _ _ _ us hl => match us, hl with | [_, _, _, _], _ => rfl
  m_grown := PySem.W.mg_of X G n_grown
  a_least_told := a_least_told
  fd_least_told := PySem.W.fnOf "least_told" "least_told" (defArgs s_least_told) (defBody s_least_told) (defScope s_least_told) .none kV_least_told dc_least_told pm_least_told an_least_told cd_least_told ct_least_told
  F_least_told := fun_mk l_least_told c_least_told k_least_told
  b_least_told := (fun_mk (st := s_least_told) l_least_told c_least_told k_least_told).binds (ps := ["machine", "width"]) fun _ _ _ _ _ _ us hl => match us, hl with | [_, _], _ => rfl
  m_least_told := PySem.W.mg_of X G n_least_told
  a_shut_paper := a_shut_paper
  fd_shut_paper := PySem.W.fnOf "shut_paper" "shut_paper" (defArgs s_shut_paper) (defBody s_shut_paper) (defScope s_shut_paper) .none kV_shut_paper dc_shut_paper pm_shut_paper an_shut_paper cd_shut_paper ct_shut_paper
  F_shut_paper := fun_mk l_shut_paper c_shut_paper k_shut_paper
  b_shut_paper := (fun_mk (st := s_shut_paper) l_shut_paper c_shut_paper k_shut_paper).binds (ps := ["machine"]) fun _ _ _ _ _ _ us hl => match us, hl with | [_], _ => rfl
  m_shut_paper := PySem.W.mg_of X G n_shut_paper
  a_plain := a_plain
  fd_plain := PySem.W.fnOf "plain" "plain" (defArgs s_plain) (defBody s_plain) (defScope s_plain) .none kV_plain dc_plain pm_plain an_plain cd_plain ct_plain
  F_plain := fun_mk l_plain c_plain k_plain
  b_plain := (fun_mk (st := s_plain) l_plain c_plain k_plain).binds (ps := ["signs"]) fun _ _ _ _ _ _ us hl => match us, hl with | [_], _ => rfl
  m_plain := PySem.W.mg_of X G n_plain
  a_Log_init := a_Log_init
  fd_Log_init := PySem.W.fnOf "__init__" "Log.__init__" (defArgs s_Log_init) (defBody s_Log_init) (defScope s_Log_init) .none kV_Log_init dc_Log_init pm_Log_init an_Log_init cd_Log_init ct_Log_init
  F_Log_init := fun_mk l_Log_init c_Log_init k_Log_init
  b_Log_init := (fun_mk (st := s_Log_init) l_Log_init c_Log_init k_Log_init).binds (ps := ["self", "machine", "most"]) fun _ _ _ _ _ _ us hl => match us, hl with | [_, _, _], _ => rfl
  a_Log_last := a_Log_last
  fd_Log_last := PySem.W.fnOf "last" "Log.last" (defArgs s_Log_last) (defBody s_Log_last) (defScope s_Log_last) .none kV_Log_last dc_Log_last pm_Log_last an_Log_last cd_Log_last ct_Log_last
  F_Log_last := fun_mk l_Log_last c_Log_last k_Log_last
  b_Log_last := (fun_mk (st := s_Log_last) l_Log_last c_Log_last k_Log_last).binds (ps := ["self"]) fun _ _ _ _ _ _ us hl => match us, hl with | [_], _ => rfl
  a_Log_same := a_Log_same
  fd_Log_same := PySem.W.fnOf "same" "Log.same" (defArgs s_Log_same) (defBody s_Log_same) (defScope s_Log_same) .none kV_Log_same dc_Log_same pm_Log_same an_Log_same cd_Log_same ct_Log_same
  F_Log_same := fun_mk l_Log_same c_Log_same k_Log_same
  b_Log_same := (fun_mk (st := s_Log_same) l_Log_same c_Log_same k_Log_same).binds (ps := ["self", "one", "other"]) fun _ _ _ _ _ _ us hl => match us, hl with | [_, _, _], _ => rfl
  a_ring := a_ring
  fd_ring := PySem.W.fnOf "ring" "ring" (defArgs s_ring) (defBody s_ring) (defScope s_ring) .none kV_ring dc_ring pm_ring an_ring cd_ring ct_ring
  F_ring := fun_mk l_ring c_ring k_ring
  b_ring := (fun_mk (st := s_ring) l_ring c_ring k_ring).binds (ps := ["machine", "most"]) fun _ _ _ _ _ _ us hl => match us, hl with | [_, _], _ => rfl
  m_ring := PySem.W.mg_of X G n_ring
  a_Log_drifts := a_Log_drifts
  fd_Log_drifts := PySem.W.fnOf "drifts" "Log.drifts" (defArgs s_Log_drifts) (defBody s_Log_drifts) (defScope s_Log_drifts) .none kV_Log_drifts dc_Log_drifts pm_Log_drifts an_Log_drifts cd_Log_drifts ct_Log_drifts
  F_Log_drifts := fun_mk l_Log_drifts c_Log_drifts k_Log_drifts
  b_Log_drifts := (fun_mk (st := s_Log_drifts) l_Log_drifts c_Log_drifts k_Log_drifts).binds (ps := ["self", "one", "other", "low", "high"]) fun _ _ _ _ _ _ us hl => match us, hl with | [_, _, _, _, _], _ => rfl
  a_drift := a_drift
  fd_drift := PySem.W.fnOf "drift" "drift" (defArgs s_drift) (defBody s_drift) (defScope s_drift) .none kV_drift dc_drift pm_drift an_drift cd_drift ct_drift
  F_drift := fun_mk l_drift c_drift k_drift
  b_drift := (fun_mk (st := s_drift) l_drift c_drift k_drift).binds (ps := ["machine", "most"]) fun _ _ _ _ _ _ us hl => match us, hl with | [_, _], _ => rfl
  m_drift := PySem.W.mg_of X G n_drift
  a_ends_of := a_ends_of
  fd_ends_of := PySem.W.fnOf "ends_of" "ends_of" (defArgs s_ends_of) (defBody s_ends_of) (defScope s_ends_of) .none kV_ends_of dc_ends_of pm_ends_of an_ends_of cd_ends_of ct_ends_of
  F_ends_of := fun_mk l_ends_of c_ends_of k_ends_of
  b_ends_of := (fun_mk (st := s_ends_of) l_ends_of c_ends_of k_ends_of).binds (ps := ["machine"]) fun _ _ _ _ _ _ us hl => match us, hl with | [_], _ => rfl
  m_ends_of := PySem.W.mg_of X G n_ends_of
  a_ahead_of := a_ahead_of
  fd_ahead_of := PySem.W.fnOf "ahead_of" "ahead_of" (defArgs s_ahead_of) (defBody s_ahead_of) (defScope s_ahead_of) .none kV_ahead_of dc_ahead_of pm_ahead_of an_ahead_of cd_ahead_of ct_ahead_of
  F_ahead_of := fun_mk l_ahead_of c_ahead_of k_ahead_of
  b_ahead_of := (fun_mk (st := s_ahead_of) l_ahead_of c_ahead_of k_ahead_of).binds (ps := ["machine", "part"]) fun _ _ _ _ _ _ us hl => match us, hl with | [_, _], _ => rfl
  m_ahead_of := PySem.W.mg_of X G n_ahead_of
  a_gone_back := a_gone_back
  fd_gone_back := PySem.W.fnOf "gone_back" "gone_back" (defArgs s_gone_back) (defBody s_gone_back) (defScope s_gone_back) .none kV_gone_back dc_gone_back pm_gone_back an_gone_back cd_gone_back ct_gone_back
  F_gone_back := fun_mk l_gone_back c_gone_back k_gone_back
  b_gone_back := (fun_mk (st := s_gone_back) l_gone_back c_gone_back k_gone_back).binds (ps := ["machine", "parts"]) fun _ _ _ _ _ _ us hl => match us, hl with | [_, _], _ => rfl
  m_gone_back := PySem.W.mg_of X G n_gone_back
  a_first_empty := a_first_empty
  fd_first_empty := PySem.W.fnOf "first_empty" "first_empty" (defArgs s_first_empty) (defBody s_first_empty) (defScope s_first_empty) .none kV_first_empty dc_first_empty pm_first_empty an_first_empty cd_first_empty ct_first_empty
  F_first_empty := fun_mk l_first_empty c_first_empty k_first_empty
  b_first_empty := (fun_mk (st := s_first_empty) l_first_empty c_first_empty k_first_empty).binds (ps := ["machine", "most"]) fun _ _ _ _ _ _ us hl => match us, hl with | [_, _], _ => rfl
  m_first_empty := PySem.W.mg_of X G n_first_empty
  a_ends_behind := a_ends_behind
  fd_ends_behind := PySem.W.fnOf "ends_behind" "ends_behind" (defArgs s_ends_behind) (defBody s_ends_behind) (defScope s_ends_behind) .none kV_ends_behind dc_ends_behind pm_ends_behind an_ends_behind cd_ends_behind ct_ends_behind
  F_ends_behind := fun_mk l_ends_behind c_ends_behind k_ends_behind
  b_ends_behind := (fun_mk (st := s_ends_behind) l_ends_behind c_ends_behind k_ends_behind).binds (ps := ["machine", "most"]) fun _ _ _ _ _ _ us hl => match us, hl with | [_, _], _ => rfl
  m_ends_behind := PySem.W.mg_of X G n_ends_behind
  a_is_back := a_is_back
  fd_is_back := PySem.W.fnOf "is_back" "is_back" (defArgs s_is_back) (defBody s_is_back) (defScope s_is_back) .none kV_is_back dc_is_back pm_is_back an_is_back cd_is_back ct_is_back
  F_is_back := fun_mk l_is_back c_is_back k_is_back
  b_is_back := (fun_mk (st := s_is_back) l_is_back c_is_back k_is_back).binds (ps := ["machine", "depth"]) fun _ _ _ _ _ _ us hl => match us, hl with | [_, _], _ => rfl
  m_is_back := PySem.W.mg_of X G n_is_back
  a_no_back := a_no_back
  fd_no_back := PySem.W.fnOf "no_back" "no_back" (defArgs s_no_back) (defBody s_no_back) (defScope s_no_back) .none kV_no_back dc_no_back pm_no_back an_no_back cd_no_back ct_no_back
  F_no_back := fun_mk l_no_back c_no_back k_no_back
  b_no_back := (fun_mk (st := s_no_back) l_no_back c_no_back k_no_back).binds (ps := ["machine", "most"]) fun _ _ _ _ _ _ us hl => match us, hl with | [_, _], _ => rfl
  m_no_back := PySem.W.mg_of X G n_no_back
  a_sorted_as := a_sorted_as
  fd_sorted_as := PySem.W.fnOf "sorted_as" "sorted_as" (defArgs s_sorted_as) (defBody s_sorted_as) (defScope s_sorted_as) .none kV_sorted_as dc_sorted_as pm_sorted_as an_sorted_as cd_sorted_as ct_sorted_as
  F_sorted_as := fun_mk l_sorted_as c_sorted_as k_sorted_as
  b_sorted_as := (fun_mk (st := s_sorted_as) l_sorted_as c_sorted_as k_sorted_as).binds (ps := ["machine"]) fun _ _ _ _ _ _ us hl => match us, hl with | [_], _ => rfl
  m_sorted_as := PySem.W.mg_of X G n_sorted_as
  a_met_at := a_met_at
  fd_met_at := PySem.W.fnOf "met_at" "met_at" (defArgs s_met_at) (defBody s_met_at) (defScope s_met_at) .none kV_met_at dc_met_at pm_met_at an_met_at cd_met_at ct_met_at
  F_met_at := fun_mk l_met_at c_met_at k_met_at
  b_met_at := (fun_mk (st := s_met_at) l_met_at c_met_at k_met_at).binds (ps := ["machine"]) fun _ _ _ _ _ _ us hl => match us, hl with | [_], _ => rfl
  m_met_at := PySem.W.mg_of X G n_met_at
  a_all_entries := a_all_entries
  fd_all_entries := PySem.W.fnOf "all_entries" "all_entries" (defArgs s_all_entries) (defBody s_all_entries) (defScope s_all_entries) .none kV_all_entries dc_all_entries pm_all_entries an_all_entries cd_all_entries ct_all_entries
  F_all_entries := fun_mk l_all_entries c_all_entries k_all_entries
  b_all_entries := (fun_mk (st := s_all_entries) l_all_entries c_all_entries k_all_entries).binds (ps := ["machine"]) fun _ _ _ _ _ _ us hl => match us, hl with | [_], _ => rfl
  m_all_entries := PySem.W.mg_of X G n_all_entries
  a_named_signs := a_named_signs
  fd_named_signs := PySem.W.fnOf "named_signs" "named_signs" (defArgs s_named_signs) (defBody s_named_signs) (defScope s_named_signs) .none kV_named_signs dc_named_signs pm_named_signs an_named_signs cd_named_signs ct_named_signs
  F_named_signs := fun_mk l_named_signs c_named_signs k_named_signs
  b_named_signs := (fun_mk (st := s_named_signs) l_named_signs c_named_signs k_named_signs).binds (ps := ["machine"]) fun _ _ _ _ _ _ us hl => match us, hl with | [_], _ => rfl
  m_named_signs := PySem.W.mg_of X G n_named_signs
  a_with_entry := a_with_entry
  fd_with_entry := PySem.W.fnOf "with_entry" "with_entry" (defArgs s_with_entry) (defBody s_with_entry) (defScope s_with_entry) .none kV_with_entry dc_with_entry pm_with_entry an_with_entry cd_with_entry ct_with_entry
  F_with_entry := fun_mk l_with_entry c_with_entry k_with_entry
  b_with_entry := (fun_mk (st := s_with_entry) l_with_entry c_with_entry k_with_entry).binds (ps := ["machine", "row", "sign", "entry"]) fun _ _ _ _ _ _ us hl => match us, hl with | [_, _, _, _], _ => rfl
  m_with_entry := PySem.W.mg_of X G n_with_entry
  a_named_rows := a_named_rows
  fd_named_rows := PySem.W.fnOf "named_rows" "named_rows" (defArgs s_named_rows) (defBody s_named_rows) (defScope s_named_rows) .none kV_named_rows dc_named_rows pm_named_rows an_named_rows cd_named_rows ct_named_rows
  F_named_rows := fun_mk l_named_rows c_named_rows k_named_rows
  b_named_rows := (fun_mk (st := s_named_rows) l_named_rows c_named_rows k_named_rows).binds (ps := ["machine"]) fun _ _ _ _ _ _ us hl => match us, hl with | [_], _ => rfl
  m_named_rows := PySem.W.mg_of X G n_named_rows
  a_children := a_children
  fd_children := PySem.W.fnOf "children" "children" (defArgs s_children) (defBody s_children) (defScope s_children) .none kV_children dc_children pm_children an_children cd_children ct_children
  F_children := fun_mk l_children c_children k_children
  b_children := (fun_mk (st := s_children) l_children c_children k_children).binds (ps := ["machine", "row", "sign"]) fun _ _ _ _ _ _ us hl => match us, hl with | [_, _, _], _ => rfl
  m_children := PySem.W.mg_of X G n_children
  a_tree := a_tree
  fd_tree := PySem.W.fnOf "tree" "tree" (defArgs s_tree) (defBody s_tree) (defScope s_tree) .none kV_tree dc_tree pm_tree an_tree cd_tree ct_tree
  F_tree := fun_mk l_tree c_tree k_tree
  b_tree := (fun_mk (st := s_tree) l_tree c_tree k_tree).binds (ps := ["rows", "signs"]) fun _ _ _ _ _ _ us hl => match us, hl with | [_, _], _ => rfl
  m_tree := PySem.W.mg_of X G n_tree
  a_L_met := a_L_met
  fd_L_met := PySem.W.fnOf "_law_met" "_law_met" (defArgs s_L_met) (defBody s_L_met) (defScope s_L_met) .none kV_L_met dc_L_met pm_L_met an_L_met cd_L_met ct_L_met
  F_L_met := fun_mk l_L_met c_L_met k_L_met
  b_L_met := (fun_mk (st := s_L_met) l_L_met c_L_met k_L_met).binds (ps := ["_law_machine", "_law_most"]) fun _ _ _ _ _ _ us hl => match us, hl with | [_, _], _ => rfl
  m_L_met := PySem.W.mg_of X G n_L_met
  a_L_named_things := a_L_named_things
  fd_L_named_things := PySem.W.fnOf "_law_named_things" "_law_named_things" (defArgs s_L_named_things) (defBody s_L_named_things) (defScope s_L_named_things) .none kV_L_named_things dc_L_named_things pm_L_named_things an_L_named_things cd_L_named_things ct_L_named_things
  F_L_named_things := fun_mk l_L_named_things c_L_named_things k_L_named_things
  b_L_named_things := (fun_mk (st := s_L_named_things) l_L_named_things c_L_named_things k_L_named_things).binds (ps := ["_law_machine", "_law_at"]) fun _ _ _ _ _ _ us hl => match us, hl with | [_, _], _ => rfl
  m_L_named_things := PySem.W.mg_of X G n_L_named_things
  a_L_children := a_L_children
  fd_L_children := PySem.W.fnOf "_law_children" "_law_children" (defArgs s_L_children) (defBody s_L_children) (defScope s_L_children) .none kV_L_children dc_L_children pm_L_children an_L_children cd_L_children ct_L_children
  F_L_children := fun_mk l_L_children c_L_children k_L_children
  b_L_children := (fun_mk (st := s_L_children) l_L_children c_L_children k_L_children).binds (ps := ["_law_machine", "_law_row", "_law_sign"]) fun _ _ _ _ _ _ us hl => match us, hl with | [_, _, _], _ => rfl
  m_L_children := PySem.W.mg_of X G n_L_children
  a_L_nodes := a_L_nodes
  fd_L_nodes := PySem.W.fnOf "_law_nodes" "_law_nodes" (defArgs s_L_nodes) (defBody s_L_nodes) (defScope s_L_nodes) .none kV_L_nodes dc_L_nodes pm_L_nodes an_L_nodes cd_L_nodes ct_L_nodes
  F_L_nodes := fun_mk l_L_nodes c_L_nodes k_L_nodes
  b_L_nodes := (fun_mk (st := s_L_nodes) l_L_nodes c_L_nodes k_L_nodes).binds (ps := ["_law_rows", "_law_signs"]) fun _ _ _ _ _ _ us hl => match us, hl with | [_, _], _ => rfl
  m_L_nodes := PySem.W.mg_of X G n_L_nodes
  a_L_plainly := a_L_plainly
  fd_L_plainly := PySem.W.fnOf "_law_plainly" "_law_plainly" (defArgs s_L_plainly) (defBody s_L_plainly) (defScope s_L_plainly) .none kV_L_plainly dc_L_plainly pm_L_plainly an_L_plainly cd_L_plainly ct_L_plainly
  F_L_plainly := fun_mk l_L_plainly c_L_plainly k_L_plainly
  b_L_plainly := (fun_mk (st := s_L_plainly) l_L_plainly c_L_plainly k_L_plainly).binds (ps := ["_law_found"]) fun _ _ _ _ _ _ us hl => match us, hl with | [_], _ => rfl
  m_L_plainly := PySem.W.mg_of X G n_L_plainly
  a_is_ring := a_is_ring
  fd_is_ring := PySem.W.fnOf "is_ring" "is_ring" (defArgs s_is_ring) (defBody s_is_ring) (defScope s_is_ring) .none kV_is_ring dc_is_ring pm_is_ring an_is_ring cd_is_ring ct_is_ring
  F_is_ring := fun_mk l_is_ring c_is_ring k_is_ring
  b_is_ring := (fun_mk (st := s_is_ring) l_is_ring c_is_ring k_is_ring).binds (ps := ["machine", "first", "last"]) fun _ _ _ _ _ _ us hl => match us, hl with | [_, _, _], _ => rfl
  m_is_ring := PySem.W.mg_of X G n_is_ring
  a_is_drift := a_is_drift
  fd_is_drift := PySem.W.fnOf "is_drift" "is_drift" (defArgs s_is_drift) (defBody s_is_drift) (defScope s_is_drift) .none kV_is_drift dc_is_drift pm_is_drift an_is_drift cd_is_drift ct_is_drift
  F_is_drift := fun_mk l_is_drift c_is_drift k_is_drift
  b_is_drift := (fun_mk (st := s_is_drift) l_is_drift c_is_drift k_is_drift).binds (ps := ["machine", "first", "last"]) fun _ _ _ _ _ _ us hl => match us, hl with | [_, _, _], _ => rfl
  m_is_drift := PySem.W.mg_of X G n_is_drift
  a_are_words := a_are_words
  fd_are_words := PySem.W.fnOf "are_words" "are_words" (defArgs s_are_words) (defBody s_are_words) (defScope s_are_words) .none kV_are_words dc_are_words pm_are_words an_are_words cd_are_words ct_are_words
  F_are_words := fun_mk l_are_words c_are_words k_are_words
  b_are_words := (fun_mk (st := s_are_words) l_are_words c_are_words k_are_words).binds (ps := ["words", "width", "signs"]) fun _ _ _ _ _ _ us hl => match us, hl with | [_, _, _], _ => rfl
  m_are_words := PySem.W.mg_of X G n_are_words
  a_are_middles := a_are_middles
  fd_are_middles := PySem.W.fnOf "are_middles" "are_middles" (defArgs s_are_middles) (defBody s_are_middles) (defScope s_are_middles) .none kV_are_middles dc_are_middles pm_are_middles an_are_middles cd_are_middles ct_are_middles
  F_are_middles := fun_mk l_are_middles c_are_middles k_are_middles
  b_are_middles := (fun_mk (st := s_are_middles) l_are_middles c_are_middles k_are_middles).binds (ps := ["machine", "width", "middles"]) fun _ _ _ _ _ _ us hl => match us, hl with | [_, _, _], _ => rfl
  m_are_middles := PySem.W.mg_of X G n_are_middles
  a_shows_shut := a_shows_shut
  fd_shows_shut := PySem.W.fnOf "shows_shut" "shows_shut" (defArgs s_shows_shut) (defBody s_shows_shut) (defScope s_shows_shut) .none kV_shows_shut dc_shows_shut pm_shows_shut an_shows_shut cd_shows_shut ct_shows_shut
  F_shows_shut := fun_mk l_shows_shut c_shows_shut k_shows_shut
  b_shows_shut := (fun_mk (st := s_shows_shut) l_shows_shut c_shows_shut k_shows_shut).binds (ps := ["machine", "paper"]) fun _ _ _ _ _ _ us hl => match us, hl with | [_, _], _ => rfl
  m_shows_shut := PySem.W.mg_of X G n_shows_shut
  a_shows := a_shows
  fd_shows := PySem.W.fnOf "shows" "shows" (defArgs s_shows) (defBody s_shows) (defScope s_shows) .none kV_shows dc_shows pm_shows an_shows cd_shows ct_shows
  F_shows := fun_mk l_shows c_shows k_shows
  b_shows := (fun_mk (st := s_shows) l_shows c_shows k_shows).binds (ps := ["machine", "paper"]) fun _ _ _ _ _ _ us hl => match us, hl with | [_, _], _ => rfl
  m_shows := PySem.W.mg_of X G n_shows
  a_law := a_law
  fd_law := PySem.W.fnOf "law" "law" (defArgs s_law) (defBody s_law) (defScope s_law) .none kV_law dc_law pm_law an_law cd_law ct_law
  F_law := fun_mk l_law c_law k_law
  b_law := (fun_mk (st := s_law) l_law c_law k_law).binds (ps := ["_law_script"]) fun _ _ _ _ _ _ us hl => match us, hl with | [_], _ => rfl
  m_law := PySem.W.mg_of X G n_law
  C_NoSize := C_NoSize
  m_NoSize := PySem.W.mg_of X G n_NoSize
  C_NoMachine := C_NoMachine
  m_NoMachine := PySem.W.mg_of X G n_NoMachine
  C_Goer := C_Goer
  m_Goer := PySem.W.mg_of X G n_Goer
  cl_Goer := ⟨pg_Goer, hd_Goer, po_Goer, sa_Goer⟩
  M_Goer := ⟨mk_Goer, n_Goer_init, i_Goer_init, kc_Goer⟩
  M_Goer_entry := ⟨n_Goer_entry, i_Goer_entry, k_Goer_entry⟩
  M_Goer_step := ⟨n_Goer_step, i_Goer_step, k_Goer_step⟩
  M_Goer_setup := ⟨n_Goer_setup, i_Goer_setup, k_Goer_setup⟩
  nA_Goer_table := f_Goer_table
  nA_Goer_row := f_Goer_row
  nA_Goer_spot := f_Goer_spot
  nA_Goer_signs := f_Goer_signs
  nA_Goer_steps := f_Goer_steps
  C_Log := C_Log
  m_Log := PySem.W.mg_of X G n_Log
  cl_Log := ⟨pg_Log, hd_Log, po_Log, sa_Log⟩
  M_Log := ⟨mk_Log, n_Log_init, i_Log_init, kc_Log⟩
  M_Log_last := ⟨n_Log_last, i_Log_last, k_Log_last⟩
  M_Log_same := ⟨n_Log_same, i_Log_same, k_Log_same⟩
  M_Log_drifts := ⟨n_Log_drifts, i_Log_drifts, k_Log_drifts⟩
  nA_Log_rows := f_Log_rows
  nA_Log_places := f_Log_places
  nA_Log_strips := f_Log_strips
  nA_Log_has_ended := f_Log_has_ended
  tk_MOST_ROWS_tree := tk_MOST_ROWS_tree
  m_MOST_ROWS_tree := PySem.W.mg_of X G n_MOST_ROWS_tree
  tk_MOST_ENTRIES := tk_MOST_ENTRIES
  m_MOST_ENTRIES := PySem.W.mg_of X G n_MOST_ENTRIES
  tk_MOST_ROWS_machines := tk_MOST_ROWS_machines
  m_MOST_ROWS_machines := PySem.W.mg_of X G n_MOST_ROWS_machines
  tk_MOST_SIGNS := tk_MOST_SIGNS
  m_MOST_SIGNS := PySem.W.mg_of X G n_MOST_SIGNS
  tk_MOST_WORDS := tk_MOST_WORDS
  m_MOST_WORDS := PySem.W.mg_of X G n_MOST_WORDS
  tk_MOST_PARTS := tk_MOST_PARTS
  m_MOST_PARTS := PySem.W.mg_of X G n_MOST_PARTS
  tk_MOST_DEPTH := tk_MOST_DEPTH
  m_MOST_DEPTH := PySem.W.mg_of X G n_MOST_DEPTH
  tk_MOST_STEPS := tk_MOST_STEPS
  m_MOST_STEPS := PySem.W.mg_of X G n_MOST_STEPS
  tk_MOST_LOOKED := tk_MOST_LOOKED
  m_MOST_LOOKED := PySem.W.mg_of X G n_MOST_LOOKED
  tk_MOST_DEEP := tk_MOST_DEEP
  m_MOST_DEEP := PySem.W.mg_of X G n_MOST_DEEP
  n_range := PySem.W.mg_none_of X G z_range
  n_len := PySem.W.mg_none_of X G z_len
  n_all := PySem.W.mg_none_of X G z_all
  n_dict := PySem.W.mg_none_of X G z_dict
  n_sorted := PySem.W.mg_none_of X G z_sorted
  n_list := PySem.W.mg_none_of X G z_list
  n_int := PySem.W.mg_none_of X G z_int
  n_min := PySem.W.mg_none_of X G z_min
  n_max := PySem.W.mg_none_of X G z_max
  n_tuple := PySem.W.mg_none_of X G z_tuple
  n_sum := PySem.W.mg_none_of X G z_sum
  n_isinstance := PySem.W.mg_none_of X G z_isinstance
  n_str := PySem.W.mg_none_of X G z_str
  n_bool := PySem.W.mg_none_of X G z_bool
  n_enumerate := PySem.W.mg_none_of X G z_enumerate
theorem all_mk {l : PySem.W.OpenLaw} {w : World} {K : PySem.W.Frag} {h : Heap} {mg : Str → Option Value} {fa : Addr} (X : K.In h) (G : h.Ns mainGlobals mg) (hfa : mg "law" = some (.ref fa)) (t : Tx K mg)
    (hb : ∃ (kV dc pm : Value) (an : Option Addr) (cd ct : Value), t.fd_law = PySem.W.fnOf "law" "law" (defArgs s_law) (defBody s_law) (defScope s_law) .none kV dc pm an cd ct) :
    ∃ fd : FuncData, (∀ (s : Shared) (v : Value), BindsTo s fd ⟨[v], []⟩ [("_law_script", v)]) ∧ ∀ base : Heap, K.In base → base.Ns mainGlobals mg → FnOk l.prog w K mg base CX0 9 fa fd ["_law_script"] (sp_law K) := by
  have e := hfa.symm.trans t.m_law
  cases e
  refine ⟨t.fd_law, fun s v => ?_, fun base _ _ => ok_law t⟩
  obtain ⟨kV, dc, pm, an, cd, ct, e⟩ := hb
  rw [e]
  exact .of_eq rfl
theorem walk {l : PySem.W.OpenLaw} {q : Program} {loose : List Str} {XP : (Str → Option Value) → Heap → Prop} {YP : World → Heap → Prop} {d : DefRec} {K : Params → PySem.W.Frag} (hn : l.most = some 63) (hdf : d.params.defaults = [])
    (hY : ∀ (w : World) (h : Heap), YP w h → (K w.params).In h)
    (F : ∀ (w : World) (mg : Str → Option Value) (fa : Addr) (h : Heap), (K w.params).In h → h.Ns mainGlobals mg → mg d.name = some (.ref fa) →
      ∃ fd : FuncData, (∀ (s : Shared) (u : Value), BindsTo s fd ⟨[u], []⟩ [("_law_script", u)]) ∧ ∀ base : Heap, (K w.params).In base → base.Ns mainGlobals mg → FnOk l.prog w (K w.params) mg base CX0 9 fa fd ["_law_script"] (sp_law (K w.params))) :
    PySem.W.WalkO q loose XP YP l.row.toRowW d [] (fun f vs => PySem.call f vs) :=
  L2.walk_of (n := 63) (k := 9) (x := "_law_script") (CX := fun _ => CX0) (sp := fun w => sp_law (K w.params)) hn (by decide) hdf ⟨rfl, by decide, by decide⟩ hY F (fun _ _ a ns hl _ hS => ⟨a, ns, rfl, hS, hl, fun _ => rfl⟩) fun _ _ _ _ _ z => z
theorem all_go {l : PySem.W.OpenLaw} {w : World} {K : PySem.W.Frag} {h : Heap} {mg : Str → Option Value} {fa : Addr} {a_L_mixed a_L_purse a_L_draw a_must_size a_empty_machine a_is_entry a_is_machine a_must_machine a_Goer_init a_Goer_entry a_Goer_step a_gone a_told_strip a_Goer_setup a_run a_is_width a_entry_for a_led_right a_led_left a_put_new a_grown a_least_told a_shut_paper a_plain a_Log_init a_Log_last a_Log_same a_ring a_Log_drifts a_drift a_ends_of a_ahead_of a_gone_back a_first_empty a_ends_behind a_is_back a_no_back a_sorted_as a_met_at a_all_entries a_named_signs a_with_entry a_named_rows a_children a_tree a_L_met a_L_named_things a_L_children a_L_nodes a_L_plainly a_is_ring a_is_drift a_are_words a_are_middles a_shows_shut a_shows a_law C_NoSize C_NoMachine C_Goer C_Log : Addr} {od_L_mixed an_L_mixed od_L_purse an_L_purse od_L_draw an_L_draw od_must_size an_must_size od_empty_machine an_empty_machine od_is_entry an_is_entry od_is_machine an_is_machine od_must_machine an_must_machine od_Goer_init an_Goer_init od_Goer_entry an_Goer_entry od_Goer_step an_Goer_step od_gone an_gone od_told_strip an_told_strip od_Goer_setup an_Goer_setup od_run an_run od_is_width an_is_width od_entry_for an_entry_for od_led_right an_led_right od_led_left an_led_left od_put_new an_put_new od_grown an_grown od_least_told an_least_told od_shut_paper an_shut_paper od_plain an_plain od_Log_init an_Log_init od_Log_last an_Log_last od_Log_same an_Log_same od_ring an_ring od_Log_drifts an_Log_drifts od_drift an_drift od_ends_of an_ends_of od_ahead_of an_ahead_of od_gone_back an_gone_back od_first_empty an_first_empty od_ends_behind an_ends_behind od_is_back an_is_back od_no_back an_no_back od_sorted_as an_sorted_as od_met_at an_met_at od_all_entries an_all_entries od_named_signs an_named_signs od_with_entry an_with_entry od_named_rows an_named_rows od_children an_children od_tree an_tree od_L_met an_L_met od_L_named_things an_L_named_things od_L_children an_L_children od_L_nodes an_L_nodes od_L_plainly an_L_plainly od_is_ring an_is_ring od_is_drift an_is_drift od_are_words an_are_words od_are_middles an_are_middles od_shows_shut an_shows_shut od_shows an_shows od_law an_law : Option Addr} {sl_L_mixed sl_L_purse sl_L_draw sl_must_size sl_empty_machine sl_is_entry sl_is_machine sl_must_machine sl_Goer_init sl_Goer_entry sl_Goer_step sl_gone sl_told_strip sl_Goer_setup sl_run sl_is_width sl_entry_for sl_led_right sl_led_left sl_put_new sl_grown sl_least_told sl_shut_paper sl_plain sl_Log_init sl_Log_last sl_Log_same sl_ring sl_Log_drifts sl_drift sl_ends_of sl_ahead_of sl_gone_back sl_first_empty sl_ends_behind sl_is_back sl_no_back sl_sorted_as sl_met_at sl_all_entries sl_named_signs sl_with_entry sl_named_rows sl_children sl_tree sl_L_met sl_L_named_things sl_L_children sl_L_nodes sl_L_plainly sl_is_ring sl_is_drift sl_are_words sl_are_middles sl_shows_shut sl_shows sl_law : Array (Option Value)} {oc_L_mixed kV_L_mixed dc_L_mixed pm_L_mixed cd_L_mixed ct_L_mixed oc_L_purse kV_L_purse dc_L_purse pm_L_purse cd_L_purse ct_L_purse oc_L_draw kV_L_draw dc_L_draw pm_L_draw cd_L_draw ct_L_draw oc_must_size kV_must_size dc_must_size pm_must_size cd_must_size ct_must_size oc_empty_machine kV_empty_machine dc_empty_machine pm_empty_machine cd_empty_machine ct_empty_machine oc_is_entry kV_is_entry dc_is_entry pm_is_entry cd_is_entry ct_is_entry oc_is_machine kV_is_machine dc_is_machine pm_is_machine cd_is_machine ct_is_machine oc_must_machine kV_must_machine dc_must_machine pm_must_machine cd_must_machine ct_must_machine oc_Goer_init kV_Goer_init dc_Goer_init pm_Goer_init cd_Goer_init ct_Goer_init oc_Goer_entry kV_Goer_entry dc_Goer_entry pm_Goer_entry cd_Goer_entry ct_Goer_entry oc_Goer_step kV_Goer_step dc_Goer_step pm_Goer_step cd_Goer_step ct_Goer_step oc_gone kV_gone dc_gone pm_gone cd_gone ct_gone oc_told_strip kV_told_strip dc_told_strip pm_told_strip cd_told_strip ct_told_strip oc_Goer_setup kV_Goer_setup dc_Goer_setup pm_Goer_setup cd_Goer_setup ct_Goer_setup oc_run kV_run dc_run pm_run cd_run ct_run oc_is_width kV_is_width dc_is_width pm_is_width cd_is_width ct_is_width oc_entry_for kV_entry_for dc_entry_for pm_entry_for cd_entry_for ct_entry_for oc_led_right kV_led_right dc_led_right pm_led_right cd_led_right ct_led_right oc_led_left kV_led_left dc_led_left pm_led_left cd_led_left ct_led_left oc_put_new kV_put_new dc_put_new pm_put_new cd_put_new ct_put_new oc_grown kV_grown dc_grown pm_grown cd_grown ct_grown oc_least_told kV_least_told dc_least_told pm_least_told cd_least_told ct_least_told oc_shut_paper kV_shut_paper dc_shut_paper pm_shut_paper cd_shut_paper ct_shut_paper oc_plain kV_plain dc_plain pm_plain cd_plain ct_plain oc_Log_init kV_Log_init dc_Log_init pm_Log_init cd_Log_init ct_Log_init oc_Log_last kV_Log_last dc_Log_last pm_Log_last cd_Log_last ct_Log_last oc_Log_same kV_Log_same dc_Log_same pm_Log_same cd_Log_same ct_Log_same oc_ring kV_ring dc_ring pm_ring cd_ring ct_ring oc_Log_drifts kV_Log_drifts dc_Log_drifts pm_Log_drifts cd_Log_drifts ct_Log_drifts oc_drift kV_drift dc_drift pm_drift cd_drift ct_drift oc_ends_of kV_ends_of dc_ends_of pm_ends_of cd_ends_of ct_ends_of oc_ahead_of kV_ahead_of dc_ahead_of pm_ahead_of cd_ahead_of ct_ahead_of oc_gone_back kV_gone_back dc_gone_back pm_gone_back cd_gone_back ct_gone_back oc_first_empty kV_first_empty dc_first_empty pm_first_empty cd_first_empty ct_first_empty oc_ends_behind kV_ends_behind dc_ends_behind pm_ends_behind cd_ends_behind ct_ends_behind oc_is_back kV_is_back dc_is_back pm_is_back cd_is_back ct_is_back oc_no_back kV_no_back dc_no_back pm_no_back cd_no_back ct_no_back oc_sorted_as kV_sorted_as dc_sorted_as pm_sorted_as cd_sorted_as ct_sorted_as oc_met_at kV_met_at dc_met_at pm_met_at cd_met_at ct_met_at oc_all_entries kV_all_entries dc_all_entries pm_all_entries cd_all_entries ct_all_entries oc_named_signs kV_named_signs dc_named_signs pm_named_signs cd_named_signs ct_named_signs oc_with_entry kV_with_entry dc_with_entry pm_with_entry cd_with_entry ct_with_entry oc_named_rows kV_named_rows dc_named_rows pm_named_rows cd_named_rows ct_named_rows oc_children kV_children dc_children pm_children cd_children ct_children oc_tree kV_tree dc_tree pm_tree cd_tree ct_tree oc_L_met kV_L_met dc_L_met pm_L_met cd_L_met ct_L_met oc_L_named_things kV_L_named_things dc_L_named_things pm_L_named_things cd_L_named_things ct_L_named_things oc_L_children kV_L_children dc_L_children pm_L_children cd_L_children ct_L_children oc_L_nodes kV_L_nodes dc_L_nodes pm_L_nodes cd_L_nodes ct_L_nodes oc_L_plainly kV_L_plainly dc_L_plainly pm_L_plainly cd_L_plainly ct_L_plainly oc_is_ring kV_is_ring dc_is_ring pm_is_ring cd_is_ring ct_is_ring oc_is_drift kV_is_drift dc_is_drift pm_is_drift cd_is_drift ct_is_drift oc_are_words kV_are_words dc_are_words pm_are_words cd_are_words ct_are_words oc_are_middles kV_are_middles dc_are_middles pm_are_middles cd_are_middles ct_are_middles oc_shows_shut kV_shows_shut dc_shows_shut pm_shows_shut cd_shows_shut ct_shows_shut oc_shows kV_shows dc_shows pm_shows cd_shows ct_shows oc_law kV_law dc_law pm_law cd_law ct_law : Value} {tk_MOST_ROWS_tree tk_MOST_ENTRIES tk_MOST_ROWS_machines tk_MOST_SIGNS tk_MOST_WORDS tk_MOST_PARTS tk_MOST_DEPTH tk_MOST_STEPS tk_MOST_LOOKED tk_MOST_DEEP : Tok} (X : K.In h) (G : h.Ns mainGlobals mg) (hfa : mg "law" = some (.ref fa))
    (n_NoSize : PySem.W.nsIn K mainGlobals "NoSize" = some (some (.ref C_NoSize)))
    (n_NoMachine : PySem.W.nsIn K mainGlobals "NoMachine" = some (some (.ref C_NoMachine)))
    (n_Goer : PySem.W.nsIn K mainGlobals "Goer" = some (some (.ref C_Goer)))
    (n_Log : PySem.W.nsIn K mainGlobals "Log" = some (some (.ref C_Log)))
    (n_L_mixed : PySem.W.nsIn K mainGlobals "_law_mixed" = some (some (.ref a_L_mixed)))
    (l_L_mixed : K.lookup a_L_mixed = some ⟨oc_L_mixed, od_L_mixed, .func (PySem.W.fnOf "_law_mixed" "_law_mixed" (defArgs s_L_mixed) (defBody s_L_mixed) (defScope s_L_mixed) .none kV_L_mixed dc_L_mixed pm_L_mixed an_L_mixed cd_L_mixed ct_L_mixed), sl_L_mixed⟩)
    (c_L_mixed : PySem.W.codeIn K cd_L_mixed "_law_mixed" = true)
    (k_L_mixed : PySem.W.keepIn K (.ref a_L_mixed) = true)
    (n_L_purse : PySem.W.nsIn K mainGlobals "_law_purse" = some (some (.ref a_L_purse)))
    (l_L_purse : K.lookup a_L_purse = some ⟨oc_L_purse, od_L_purse, .func (PySem.W.fnOf "_law_purse" "_law_purse" (defArgs s_L_purse) (defBody s_L_purse) (defScope s_L_purse) .none kV_L_purse dc_L_purse pm_L_purse an_L_purse cd_L_purse ct_L_purse), sl_L_purse⟩)
    (c_L_purse : PySem.W.codeIn K cd_L_purse "_law_purse" = true)
    (k_L_purse : PySem.W.keepIn K (.ref a_L_purse) = true)
    (n_L_draw : PySem.W.nsIn K mainGlobals "_law_draw" = some (some (.ref a_L_draw)))
    (l_L_draw : K.lookup a_L_draw = some ⟨oc_L_draw, od_L_draw, .func (PySem.W.fnOf "_law_draw" "_law_draw" (defArgs s_L_draw) (defBody s_L_draw) (defScope s_L_draw) .none kV_L_draw dc_L_draw pm_L_draw an_L_draw cd_L_draw ct_L_draw), sl_L_draw⟩)
    (c_L_draw : PySem.W.codeIn K cd_L_draw "_law_draw" = true)
    (k_L_draw : PySem.W.keepIn K (.ref a_L_draw) = true)
    (n_must_size : PySem.W.nsIn K mainGlobals "must_size" = some (some (.ref a_must_size)))
    (l_must_size : K.lookup a_must_size = some ⟨oc_must_size, od_must_size, .func (PySem.W.fnOf "must_size" "must_size" (defArgs s_must_size) (defBody s_must_size) (defScope s_must_size) .none kV_must_size dc_must_size pm_must_size an_must_size cd_must_size ct_must_size), sl_must_size⟩)
    (c_must_size : PySem.W.codeIn K cd_must_size "must_size" = true)
    (k_must_size : PySem.W.keepIn K (.ref a_must_size) = true)
    (n_empty_machine : PySem.W.nsIn K mainGlobals "empty_machine" = some (some (.ref a_empty_machine)))
    (l_empty_machine : K.lookup a_empty_machine = some ⟨oc_empty_machine, od_empty_machine, .func (PySem.W.fnOf "empty_machine" "empty_machine" (defArgs s_empty_machine) (defBody s_empty_machine) (defScope s_empty_machine) .none kV_empty_machine dc_empty_machine pm_empty_machine an_empty_machine cd_empty_machine ct_empty_machine), sl_empty_machine⟩)
    (c_empty_machine : PySem.W.codeIn K cd_empty_machine "empty_machine" = true)
    (k_empty_machine : PySem.W.keepIn K (.ref a_empty_machine) = true)
    (n_is_entry : PySem.W.nsIn K mainGlobals "is_entry" = some (some (.ref a_is_entry)))
    (l_is_entry : K.lookup a_is_entry = some ⟨oc_is_entry, od_is_entry, .func (PySem.W.fnOf "is_entry" "is_entry" (defArgs s_is_entry) (defBody s_is_entry) (defScope s_is_entry) .none kV_is_entry dc_is_entry pm_is_entry an_is_entry cd_is_entry ct_is_entry), sl_is_entry⟩)
    (c_is_entry : PySem.W.codeIn K cd_is_entry "is_entry" = true)
    (k_is_entry : PySem.W.keepIn K (.ref a_is_entry) = true)
    (n_is_machine : PySem.W.nsIn K mainGlobals "is_machine" = some (some (.ref a_is_machine)))
    (l_is_machine : K.lookup a_is_machine = some ⟨oc_is_machine, od_is_machine, .func (PySem.W.fnOf "is_machine" "is_machine" (defArgs s_is_machine) (defBody s_is_machine) (defScope s_is_machine) .none kV_is_machine dc_is_machine pm_is_machine an_is_machine cd_is_machine ct_is_machine), sl_is_machine⟩)
    (c_is_machine : PySem.W.codeIn K cd_is_machine "is_machine" = true)
    (k_is_machine : PySem.W.keepIn K (.ref a_is_machine) = true)
    (n_must_machine : PySem.W.nsIn K mainGlobals "must_machine" = some (some (.ref a_must_machine)))
    (l_must_machine : K.lookup a_must_machine = some ⟨oc_must_machine, od_must_machine, .func (PySem.W.fnOf "must_machine" "must_machine" (defArgs s_must_machine) (defBody s_must_machine) (defScope s_must_machine) .none kV_must_machine dc_must_machine pm_must_machine an_must_machine cd_must_machine ct_must_machine), sl_must_machine⟩)
    (c_must_machine : PySem.W.codeIn K cd_must_machine "must_machine" = true)
    (k_must_machine : PySem.W.keepIn K (.ref a_must_machine) = true)
    (n_Goer_init : PySem.W.findIn K (.ref C_Goer) "__init__" = some (some (.ref a_Goer_init)))
    (i_Goer_init : PySem.W.isFn K (.ref a_Goer_init) = true)
    (l_Goer_init : K.lookup a_Goer_init = some ⟨oc_Goer_init, od_Goer_init, .func (PySem.W.fnOf "__init__" "Goer.__init__" (defArgs s_Goer_init) (defBody s_Goer_init) (defScope s_Goer_init) .none kV_Goer_init dc_Goer_init pm_Goer_init an_Goer_init cd_Goer_init ct_Goer_init), sl_Goer_init⟩)
    (c_Goer_init : PySem.W.codeIn K cd_Goer_init "Goer.__init__" = true)
    (k_Goer_init : PySem.W.keepIn K (.ref a_Goer_init) = true)
    (n_Goer_entry : PySem.W.findIn K (.ref C_Goer) "entry" = some (some (.ref a_Goer_entry)))
    (i_Goer_entry : PySem.W.isFn K (.ref a_Goer_entry) = true)
    (l_Goer_entry : K.lookup a_Goer_entry = some ⟨oc_Goer_entry, od_Goer_entry, .func (PySem.W.fnOf "entry" "Goer.entry" (defArgs s_Goer_entry) (defBody s_Goer_entry) (defScope s_Goer_entry) .none kV_Goer_entry dc_Goer_entry pm_Goer_entry an_Goer_entry cd_Goer_entry ct_Goer_entry), sl_Goer_entry⟩)
    (c_Goer_entry : PySem.W.codeIn K cd_Goer_entry "Goer.entry" = true)
    (k_Goer_entry : PySem.W.keepIn K (.ref a_Goer_entry) = true)
    (n_Goer_step : PySem.W.findIn K (.ref C_Goer) "step" = some (some (.ref a_Goer_step)))
    (i_Goer_step : PySem.W.isFn K (.ref a_Goer_step) = true)
    (l_Goer_step : K.lookup a_Goer_step = some ⟨oc_Goer_step, od_Goer_step, .func (PySem.W.fnOf "step" "Goer.step" (defArgs s_Goer_step) (defBody s_Goer_step) (defScope s_Goer_step) .none kV_Goer_step dc_Goer_step pm_Goer_step an_Goer_step cd_Goer_step ct_Goer_step), sl_Goer_step⟩)
    (c_Goer_step : PySem.W.codeIn K cd_Goer_step "Goer.step" = true)
    (k_Goer_step : PySem.W.keepIn K (.ref a_Goer_step) = true)
    (n_gone : PySem.W.nsIn K mainGlobals "gone" = some (some (.ref a_gone)))
    (l_gone : K.lookup a_gone = some ⟨oc_gone, od_gone, .func (PySem.W.fnOf "gone" "gone" (defArgs s_gone) (defBody s_gone) (defScope s_gone) .none kV_gone dc_gone pm_gone an_gone cd_gone ct_gone), sl_gone⟩)
    (c_gone : PySem.W.codeIn K cd_gone "gone" = true)
    (k_gone : PySem.W.keepIn K (.ref a_gone) = true)
    (n_told_strip : PySem.W.nsIn K mainGlobals "told_strip" = some (some (.ref a_told_strip)))
    (l_told_strip : K.lookup a_told_strip = some ⟨oc_told_strip, od_told_strip, .func (PySem.W.fnOf "told_strip" "told_strip" (defArgs s_told_strip) (defBody s_told_strip) (defScope s_told_strip) .none kV_told_strip dc_told_strip pm_told_strip an_told_strip cd_told_strip ct_told_strip), sl_told_strip⟩)
    (c_told_strip : PySem.W.codeIn K cd_told_strip "told_strip" = true)
    (k_told_strip : PySem.W.keepIn K (.ref a_told_strip) = true)
    (n_Goer_setup : PySem.W.findIn K (.ref C_Goer) "setup" = some (some (.ref a_Goer_setup)))
    (i_Goer_setup : PySem.W.isFn K (.ref a_Goer_setup) = true)
    (l_Goer_setup : K.lookup a_Goer_setup = some ⟨oc_Goer_setup, od_Goer_setup, .func (PySem.W.fnOf "setup" "Goer.setup" (defArgs s_Goer_setup) (defBody s_Goer_setup) (defScope s_Goer_setup) .none kV_Goer_setup dc_Goer_setup pm_Goer_setup an_Goer_setup cd_Goer_setup ct_Goer_setup), sl_Goer_setup⟩)
    (c_Goer_setup : PySem.W.codeIn K cd_Goer_setup "Goer.setup" = true)
    (k_Goer_setup : PySem.W.keepIn K (.ref a_Goer_setup) = true)
    (n_run : PySem.W.nsIn K mainGlobals "run" = some (some (.ref a_run)))
    (l_run : K.lookup a_run = some ⟨oc_run, od_run, .func (PySem.W.fnOf "run" "run" (defArgs s_run) (defBody s_run) (defScope s_run) .none kV_run dc_run pm_run an_run cd_run ct_run), sl_run⟩)
    (c_run : PySem.W.codeIn K cd_run "run" = true)
    (k_run : PySem.W.keepIn K (.ref a_run) = true)
    (n_is_width : PySem.W.nsIn K mainGlobals "is_width" = some (some (.ref a_is_width)))
    (l_is_width : K.lookup a_is_width = some ⟨oc_is_width, od_is_width, .func (PySem.W.fnOf "is_width" "is_width" (defArgs s_is_width) (defBody s_is_width) (defScope s_is_width) .none kV_is_width dc_is_width pm_is_width an_is_width cd_is_width ct_is_width), sl_is_width⟩)
    (c_is_width : PySem.W.codeIn K cd_is_width "is_width" = true)
    (k_is_width : PySem.W.keepIn K (.ref a_is_width) = true)
    (n_entry_for : PySem.W.nsIn K mainGlobals "entry_for" = some (some (.ref a_entry_for)))
    (l_entry_for : K.lookup a_entry_for = some ⟨oc_entry_for, od_entry_for, .func (PySem.W.fnOf "entry_for" "entry_for" (defArgs s_entry_for) (defBody s_entry_for) (defScope s_entry_for) .none kV_entry_for dc_entry_for pm_entry_for an_entry_for cd_entry_for ct_entry_for), sl_entry_for⟩)
    (c_entry_for : PySem.W.codeIn K cd_entry_for "entry_for" = true)
    (k_entry_for : PySem.W.keepIn K (.ref a_entry_for) = true)
    (n_led_right : PySem.W.nsIn K mainGlobals "led_right" = some (some (.ref a_led_right)))
    (l_led_right : K.lookup a_led_right = some ⟨oc_led_right, od_led_right, .func (PySem.W.fnOf "led_right" "led_right" (defArgs s_led_right) (defBody s_led_right) (defScope s_led_right) .none kV_led_right dc_led_right pm_led_right an_led_right cd_led_right ct_led_right), sl_led_right⟩)
    (c_led_right : PySem.W.codeIn K cd_led_right "led_right" = true)
    (k_led_right : PySem.W.keepIn K (.ref a_led_right) = true)
    (n_led_left : PySem.W.nsIn K mainGlobals "led_left" = some (some (.ref a_led_left)))
    (l_led_left : K.lookup a_led_left = some ⟨oc_led_left, od_led_left, .func (PySem.W.fnOf "led_left" "led_left" (defArgs s_led_left) (defBody s_led_left) (defScope s_led_left) .none kV_led_left dc_led_left pm_led_left an_led_left cd_led_left ct_led_left), sl_led_left⟩)
    (c_led_left : PySem.W.codeIn K cd_led_left "led_left" = true)
    (k_led_left : PySem.W.keepIn K (.ref a_led_left) = true)
    (n_put_new : PySem.W.nsIn K mainGlobals "put_new" = some (some (.ref a_put_new)))
    (l_put_new : K.lookup a_put_new = some ⟨oc_put_new, od_put_new, .func (PySem.W.fnOf "put_new" "put_new" (defArgs s_put_new) (defBody s_put_new) (defScope s_put_new) .none kV_put_new dc_put_new pm_put_new an_put_new cd_put_new ct_put_new), sl_put_new⟩)
    (c_put_new : PySem.W.codeIn K cd_put_new "put_new" = true)
    (k_put_new : PySem.W.keepIn K (.ref a_put_new) = true)
    (n_grown : PySem.W.nsIn K mainGlobals "grown" = some (some (.ref a_grown)))
    (l_grown : K.lookup a_grown = some ⟨oc_grown, od_grown, .func (PySem.W.fnOf "grown" "grown" (defArgs s_grown) (defBody s_grown) (defScope s_grown) .none kV_grown dc_grown pm_grown an_grown cd_grown ct_grown), sl_grown⟩)
    (c_grown : PySem.W.codeIn K cd_grown "grown" = true)
    (k_grown : PySem.W.keepIn K (.ref a_grown) = true)
    (n_least_told : PySem.W.nsIn K mainGlobals "least_told" = some (some (.ref a_least_told)))
    (l_least_told : K.lookup a_least_told = some ⟨oc_least_told, od_least_told, .func (PySem.W.fnOf "least_told" "least_told" (defArgs s_least_told) (defBody s_least_told) (defScope s_least_told) .none kV_least_told dc_least_told pm_least_told an_least_told cd_least_told ct_least_told), sl_least_told⟩)
    (c_least_told : PySem.W.codeIn K cd_least_told "least_told" = true)
    (k_least_told : PySem.W.keepIn K (.ref a_least_told) = true)
    (n_shut_paper : PySem.W.nsIn K mainGlobals "shut_paper" = some (some (.ref a_shut_paper)))
    (l_shut_paper : K.lookup a_shut_paper = some ⟨oc_shut_paper, od_shut_paper, .func (PySem.W.fnOf "shut_paper" "shut_paper" (defArgs s_shut_paper) (defBody s_shut_paper) (defScope s_shut_paper) .none kV_shut_paper dc_shut_paper pm_shut_paper an_shut_paper cd_shut_paper ct_shut_paper), sl_shut_paper⟩)
    (c_shut_paper : PySem.W.codeIn K cd_shut_paper "shut_paper" = true)
    (k_shut_paper : PySem.W.keepIn K (.ref a_shut_paper) = true)
    (n_plain : PySem.W.nsIn K mainGlobals "plain" = some (some (.ref a_plain)))
    (l_plain : K.lookup a_plain = some ⟨oc_plain, od_plain, .func (PySem.W.fnOf "plain" "plain" (defArgs s_plain) (defBody s_plain) (defScope s_plain) .none kV_plain dc_plain pm_plain an_plain cd_plain ct_plain), sl_plain⟩)
    (c_plain : PySem.W.codeIn K cd_plain "plain" = true)
    (k_plain : PySem.W.keepIn K (.ref a_plain) = true)
    (n_Log_init : PySem.W.findIn K (.ref C_Log) "__init__" = some (some (.ref a_Log_init)))
    (i_Log_init : PySem.W.isFn K (.ref a_Log_init) = true)
    (l_Log_init : K.lookup a_Log_init = some ⟨oc_Log_init, od_Log_init, .func (PySem.W.fnOf "__init__" "Log.__init__" (defArgs s_Log_init) (defBody s_Log_init) (defScope s_Log_init) .none kV_Log_init dc_Log_init pm_Log_init an_Log_init cd_Log_init ct_Log_init), sl_Log_init⟩)
    (c_Log_init : PySem.W.codeIn K cd_Log_init "Log.__init__" = true)
    (k_Log_init : PySem.W.keepIn K (.ref a_Log_init) = true)
    (n_Log_last : PySem.W.findIn K (.ref C_Log) "last" = some (some (.ref a_Log_last)))
    (i_Log_last : PySem.W.isFn K (.ref a_Log_last) = true)
    (l_Log_last : K.lookup a_Log_last = some ⟨oc_Log_last, od_Log_last, .func (PySem.W.fnOf "last" "Log.last" (defArgs s_Log_last) (defBody s_Log_last) (defScope s_Log_last) .none kV_Log_last dc_Log_last pm_Log_last an_Log_last cd_Log_last ct_Log_last), sl_Log_last⟩)
    (c_Log_last : PySem.W.codeIn K cd_Log_last "Log.last" = true)
    (k_Log_last : PySem.W.keepIn K (.ref a_Log_last) = true)
    (n_Log_same : PySem.W.findIn K (.ref C_Log) "same" = some (some (.ref a_Log_same)))
    (i_Log_same : PySem.W.isFn K (.ref a_Log_same) = true)
    (l_Log_same : K.lookup a_Log_same = some ⟨oc_Log_same, od_Log_same, .func (PySem.W.fnOf "same" "Log.same" (defArgs s_Log_same) (defBody s_Log_same) (defScope s_Log_same) .none kV_Log_same dc_Log_same pm_Log_same an_Log_same cd_Log_same ct_Log_same), sl_Log_same⟩)
    (c_Log_same : PySem.W.codeIn K cd_Log_same "Log.same" = true)
    (k_Log_same : PySem.W.keepIn K (.ref a_Log_same) = true)
    (n_ring : PySem.W.nsIn K mainGlobals "ring" = some (some (.ref a_ring)))
    (l_ring : K.lookup a_ring = some ⟨oc_ring, od_ring, .func (PySem.W.fnOf "ring" "ring" (defArgs s_ring) (defBody s_ring) (defScope s_ring) .none kV_ring dc_ring pm_ring an_ring cd_ring ct_ring), sl_ring⟩)
    (c_ring : PySem.W.codeIn K cd_ring "ring" = true)
    (k_ring : PySem.W.keepIn K (.ref a_ring) = true)
    (n_Log_drifts : PySem.W.findIn K (.ref C_Log) "drifts" = some (some (.ref a_Log_drifts)))
    (i_Log_drifts : PySem.W.isFn K (.ref a_Log_drifts) = true)
    (l_Log_drifts : K.lookup a_Log_drifts = some ⟨oc_Log_drifts, od_Log_drifts, .func (PySem.W.fnOf "drifts" "Log.drifts" (defArgs s_Log_drifts) (defBody s_Log_drifts) (defScope s_Log_drifts) .none kV_Log_drifts dc_Log_drifts pm_Log_drifts an_Log_drifts cd_Log_drifts ct_Log_drifts), sl_Log_drifts⟩)
    (c_Log_drifts : PySem.W.codeIn K cd_Log_drifts "Log.drifts" = true)
    (k_Log_drifts : PySem.W.keepIn K (.ref a_Log_drifts) = true)
    (n_drift : PySem.W.nsIn K mainGlobals "drift" = some (some (.ref a_drift)))
    (l_drift : K.lookup a_drift = some ⟨oc_drift, od_drift, .func (PySem.W.fnOf "drift" "drift" (defArgs s_drift) (defBody s_drift) (defScope s_drift) .none kV_drift dc_drift pm_drift an_drift cd_drift ct_drift), sl_drift⟩)
    (c_drift : PySem.W.codeIn K cd_drift "drift" = true)
    (k_drift : PySem.W.keepIn K (.ref a_drift) = true)
    (n_ends_of : PySem.W.nsIn K mainGlobals "ends_of" = some (some (.ref a_ends_of)))
    (l_ends_of : K.lookup a_ends_of = some ⟨oc_ends_of, od_ends_of, .func (PySem.W.fnOf "ends_of" "ends_of" (defArgs s_ends_of) (defBody s_ends_of) (defScope s_ends_of) .none kV_ends_of dc_ends_of pm_ends_of an_ends_of cd_ends_of ct_ends_of), sl_ends_of⟩)
    (c_ends_of : PySem.W.codeIn K cd_ends_of "ends_of" = true)
    (k_ends_of : PySem.W.keepIn K (.ref a_ends_of) = true)
    (n_ahead_of : PySem.W.nsIn K mainGlobals "ahead_of" = some (some (.ref a_ahead_of)))
    (l_ahead_of : K.lookup a_ahead_of = some ⟨oc_ahead_of, od_ahead_of, .func (PySem.W.fnOf "ahead_of" "ahead_of" (defArgs s_ahead_of) (defBody s_ahead_of) (defScope s_ahead_of) .none kV_ahead_of dc_ahead_of pm_ahead_of an_ahead_of cd_ahead_of ct_ahead_of), sl_ahead_of⟩)
    (c_ahead_of : PySem.W.codeIn K cd_ahead_of "ahead_of" = true)
    (k_ahead_of : PySem.W.keepIn K (.ref a_ahead_of) = true)
    (n_gone_back : PySem.W.nsIn K mainGlobals "gone_back" = some (some (.ref a_gone_back)))
    (l_gone_back : K.lookup a_gone_back = some ⟨oc_gone_back, od_gone_back, .func (PySem.W.fnOf "gone_back" "gone_back" (defArgs s_gone_back) (defBody s_gone_back) (defScope s_gone_back) .none kV_gone_back dc_gone_back pm_gone_back an_gone_back cd_gone_back ct_gone_back), sl_gone_back⟩)
    (c_gone_back : PySem.W.codeIn K cd_gone_back "gone_back" = true)
    (k_gone_back : PySem.W.keepIn K (.ref a_gone_back) = true)
    (n_first_empty : PySem.W.nsIn K mainGlobals "first_empty" = some (some (.ref a_first_empty)))
    (l_first_empty : K.lookup a_first_empty = some ⟨oc_first_empty, od_first_empty, .func (PySem.W.fnOf "first_empty" "first_empty" (defArgs s_first_empty) (defBody s_first_empty) (defScope s_first_empty) .none kV_first_empty dc_first_empty pm_first_empty an_first_empty cd_first_empty ct_first_empty), sl_first_empty⟩)
    (c_first_empty : PySem.W.codeIn K cd_first_empty "first_empty" = true)
    (k_first_empty : PySem.W.keepIn K (.ref a_first_empty) = true)
    (n_ends_behind : PySem.W.nsIn K mainGlobals "ends_behind" = some (some (.ref a_ends_behind)))
    (l_ends_behind : K.lookup a_ends_behind = some ⟨oc_ends_behind, od_ends_behind, .func (PySem.W.fnOf "ends_behind" "ends_behind" (defArgs s_ends_behind) (defBody s_ends_behind) (defScope s_ends_behind) .none kV_ends_behind dc_ends_behind pm_ends_behind an_ends_behind cd_ends_behind ct_ends_behind), sl_ends_behind⟩)
    (c_ends_behind : PySem.W.codeIn K cd_ends_behind "ends_behind" = true)
    (k_ends_behind : PySem.W.keepIn K (.ref a_ends_behind) = true)
    (n_is_back : PySem.W.nsIn K mainGlobals "is_back" = some (some (.ref a_is_back)))
    (l_is_back : K.lookup a_is_back = some ⟨oc_is_back, od_is_back, .func (PySem.W.fnOf "is_back" "is_back" (defArgs s_is_back) (defBody s_is_back) (defScope s_is_back) .none kV_is_back dc_is_back pm_is_back an_is_back cd_is_back ct_is_back), sl_is_back⟩)
    (c_is_back : PySem.W.codeIn K cd_is_back "is_back" = true)
    (k_is_back : PySem.W.keepIn K (.ref a_is_back) = true)
    (n_no_back : PySem.W.nsIn K mainGlobals "no_back" = some (some (.ref a_no_back)))
    (l_no_back : K.lookup a_no_back = some ⟨oc_no_back, od_no_back, .func (PySem.W.fnOf "no_back" "no_back" (defArgs s_no_back) (defBody s_no_back) (defScope s_no_back) .none kV_no_back dc_no_back pm_no_back an_no_back cd_no_back ct_no_back), sl_no_back⟩)
    (c_no_back : PySem.W.codeIn K cd_no_back "no_back" = true)
    (k_no_back : PySem.W.keepIn K (.ref a_no_back) = true)
    (n_sorted_as : PySem.W.nsIn K mainGlobals "sorted_as" = some (some (.ref a_sorted_as)))
    (l_sorted_as : K.lookup a_sorted_as = some ⟨oc_sorted_as, od_sorted_as, .func (PySem.W.fnOf "sorted_as" "sorted_as" (defArgs s_sorted_as) (defBody s_sorted_as) (defScope s_sorted_as) .none kV_sorted_as dc_sorted_as pm_sorted_as an_sorted_as cd_sorted_as ct_sorted_as), sl_sorted_as⟩)
    (c_sorted_as : PySem.W.codeIn K cd_sorted_as "sorted_as" = true)
    (k_sorted_as : PySem.W.keepIn K (.ref a_sorted_as) = true)
    (n_met_at : PySem.W.nsIn K mainGlobals "met_at" = some (some (.ref a_met_at)))
    (l_met_at : K.lookup a_met_at = some ⟨oc_met_at, od_met_at, .func (PySem.W.fnOf "met_at" "met_at" (defArgs s_met_at) (defBody s_met_at) (defScope s_met_at) .none kV_met_at dc_met_at pm_met_at an_met_at cd_met_at ct_met_at), sl_met_at⟩)
    (c_met_at : PySem.W.codeIn K cd_met_at "met_at" = true)
    (k_met_at : PySem.W.keepIn K (.ref a_met_at) = true)
    (n_all_entries : PySem.W.nsIn K mainGlobals "all_entries" = some (some (.ref a_all_entries)))
    (l_all_entries : K.lookup a_all_entries = some ⟨oc_all_entries, od_all_entries, .func (PySem.W.fnOf "all_entries" "all_entries" (defArgs s_all_entries) (defBody s_all_entries) (defScope s_all_entries) .none kV_all_entries dc_all_entries pm_all_entries an_all_entries cd_all_entries ct_all_entries), sl_all_entries⟩)
    (c_all_entries : PySem.W.codeIn K cd_all_entries "all_entries" = true)
    (k_all_entries : PySem.W.keepIn K (.ref a_all_entries) = true)
    (n_named_signs : PySem.W.nsIn K mainGlobals "named_signs" = some (some (.ref a_named_signs)))
    (l_named_signs : K.lookup a_named_signs = some ⟨oc_named_signs, od_named_signs, .func (PySem.W.fnOf "named_signs" "named_signs" (defArgs s_named_signs) (defBody s_named_signs) (defScope s_named_signs) .none kV_named_signs dc_named_signs pm_named_signs an_named_signs cd_named_signs ct_named_signs), sl_named_signs⟩)
    (c_named_signs : PySem.W.codeIn K cd_named_signs "named_signs" = true)
    (k_named_signs : PySem.W.keepIn K (.ref a_named_signs) = true)
    (n_with_entry : PySem.W.nsIn K mainGlobals "with_entry" = some (some (.ref a_with_entry)))
    (l_with_entry : K.lookup a_with_entry = some ⟨oc_with_entry, od_with_entry, .func (PySem.W.fnOf "with_entry" "with_entry" (defArgs s_with_entry) (defBody s_with_entry) (defScope s_with_entry) .none kV_with_entry dc_with_entry pm_with_entry an_with_entry cd_with_entry ct_with_entry), sl_with_entry⟩)
    (c_with_entry : PySem.W.codeIn K cd_with_entry "with_entry" = true)
    (k_with_entry : PySem.W.keepIn K (.ref a_with_entry) = true)
    (n_named_rows : PySem.W.nsIn K mainGlobals "named_rows" = some (some (.ref a_named_rows)))
    (l_named_rows : K.lookup a_named_rows = some ⟨oc_named_rows, od_named_rows, .func (PySem.W.fnOf "named_rows" "named_rows" (defArgs s_named_rows) (defBody s_named_rows) (defScope s_named_rows) .none kV_named_rows dc_named_rows pm_named_rows an_named_rows cd_named_rows ct_named_rows), sl_named_rows⟩)
    (c_named_rows : PySem.W.codeIn K cd_named_rows "named_rows" = true)
    (k_named_rows : PySem.W.keepIn K (.ref a_named_rows) = true)
    (n_children : PySem.W.nsIn K mainGlobals "children" = some (some (.ref a_children)))
    (l_children : K.lookup a_children = some ⟨oc_children, od_children, .func (PySem.W.fnOf "children" "children" (defArgs s_children) (defBody s_children) (defScope s_children) .none kV_children dc_children pm_children an_children cd_children ct_children), sl_children⟩)
    (c_children : PySem.W.codeIn K cd_children "children" = true)
    (k_children : PySem.W.keepIn K (.ref a_children) = true)
    (n_tree : PySem.W.nsIn K mainGlobals "tree" = some (some (.ref a_tree)))
    (l_tree : K.lookup a_tree = some ⟨oc_tree, od_tree, .func (PySem.W.fnOf "tree" "tree" (defArgs s_tree) (defBody s_tree) (defScope s_tree) .none kV_tree dc_tree pm_tree an_tree cd_tree ct_tree), sl_tree⟩)
    (c_tree : PySem.W.codeIn K cd_tree "tree" = true)
    (k_tree : PySem.W.keepIn K (.ref a_tree) = true)
    (n_L_met : PySem.W.nsIn K mainGlobals "_law_met" = some (some (.ref a_L_met)))
    (l_L_met : K.lookup a_L_met = some ⟨oc_L_met, od_L_met, .func (PySem.W.fnOf "_law_met" "_law_met" (defArgs s_L_met) (defBody s_L_met) (defScope s_L_met) .none kV_L_met dc_L_met pm_L_met an_L_met cd_L_met ct_L_met), sl_L_met⟩)
    (c_L_met : PySem.W.codeIn K cd_L_met "_law_met" = true)
    (k_L_met : PySem.W.keepIn K (.ref a_L_met) = true)
    (n_L_named_things : PySem.W.nsIn K mainGlobals "_law_named_things" = some (some (.ref a_L_named_things)))
    (l_L_named_things : K.lookup a_L_named_things = some ⟨oc_L_named_things, od_L_named_things, .func (PySem.W.fnOf "_law_named_things" "_law_named_things" (defArgs s_L_named_things) (defBody s_L_named_things) (defScope s_L_named_things) .none kV_L_named_things dc_L_named_things pm_L_named_things an_L_named_things cd_L_named_things ct_L_named_things), sl_L_named_things⟩)
    (c_L_named_things : PySem.W.codeIn K cd_L_named_things "_law_named_things" = true)
    (k_L_named_things : PySem.W.keepIn K (.ref a_L_named_things) = true)
    (n_L_children : PySem.W.nsIn K mainGlobals "_law_children" = some (some (.ref a_L_children)))
    (l_L_children : K.lookup a_L_children = some ⟨oc_L_children, od_L_children, .func (PySem.W.fnOf "_law_children" "_law_children" (defArgs s_L_children) (defBody s_L_children) (defScope s_L_children) .none kV_L_children dc_L_children pm_L_children an_L_children cd_L_children ct_L_children), sl_L_children⟩)
    (c_L_children : PySem.W.codeIn K cd_L_children "_law_children" = true)
    (k_L_children : PySem.W.keepIn K (.ref a_L_children) = true)
    (n_L_nodes : PySem.W.nsIn K mainGlobals "_law_nodes" = some (some (.ref a_L_nodes)))
    (l_L_nodes : K.lookup a_L_nodes = some ⟨oc_L_nodes, od_L_nodes, .func (PySem.W.fnOf "_law_nodes" "_law_nodes" (defArgs s_L_nodes) (defBody s_L_nodes) (defScope s_L_nodes) .none kV_L_nodes dc_L_nodes pm_L_nodes an_L_nodes cd_L_nodes ct_L_nodes), sl_L_nodes⟩)
    (c_L_nodes : PySem.W.codeIn K cd_L_nodes "_law_nodes" = true)
    (k_L_nodes : PySem.W.keepIn K (.ref a_L_nodes) = true)
    (n_L_plainly : PySem.W.nsIn K mainGlobals "_law_plainly" = some (some (.ref a_L_plainly)))
    (l_L_plainly : K.lookup a_L_plainly = some ⟨oc_L_plainly, od_L_plainly, .func (PySem.W.fnOf "_law_plainly" "_law_plainly" (defArgs s_L_plainly) (defBody s_L_plainly) (defScope s_L_plainly) .none kV_L_plainly dc_L_plainly pm_L_plainly an_L_plainly cd_L_plainly ct_L_plainly), sl_L_plainly⟩)
    (c_L_plainly : PySem.W.codeIn K cd_L_plainly "_law_plainly" = true)
    (k_L_plainly : PySem.W.keepIn K (.ref a_L_plainly) = true)
    (n_is_ring : PySem.W.nsIn K mainGlobals "is_ring" = some (some (.ref a_is_ring)))
    (l_is_ring : K.lookup a_is_ring = some ⟨oc_is_ring, od_is_ring, .func (PySem.W.fnOf "is_ring" "is_ring" (defArgs s_is_ring) (defBody s_is_ring) (defScope s_is_ring) .none kV_is_ring dc_is_ring pm_is_ring an_is_ring cd_is_ring ct_is_ring), sl_is_ring⟩)
    (c_is_ring : PySem.W.codeIn K cd_is_ring "is_ring" = true)
    (k_is_ring : PySem.W.keepIn K (.ref a_is_ring) = true)
    (n_is_drift : PySem.W.nsIn K mainGlobals "is_drift" = some (some (.ref a_is_drift)))
    (l_is_drift : K.lookup a_is_drift = some ⟨oc_is_drift, od_is_drift, .func (PySem.W.fnOf "is_drift" "is_drift" (defArgs s_is_drift) (defBody s_is_drift) (defScope s_is_drift) .none kV_is_drift dc_is_drift pm_is_drift an_is_drift cd_is_drift ct_is_drift), sl_is_drift⟩)
    (c_is_drift : PySem.W.codeIn K cd_is_drift "is_drift" = true)
    (k_is_drift : PySem.W.keepIn K (.ref a_is_drift) = true)
    (n_are_words : PySem.W.nsIn K mainGlobals "are_words" = some (some (.ref a_are_words)))
    (l_are_words : K.lookup a_are_words = some ⟨oc_are_words, od_are_words, .func (PySem.W.fnOf "are_words" "are_words" (defArgs s_are_words) (defBody s_are_words) (defScope s_are_words) .none kV_are_words dc_are_words pm_are_words an_are_words cd_are_words ct_are_words), sl_are_words⟩)
    (c_are_words : PySem.W.codeIn K cd_are_words "are_words" = true)
    (k_are_words : PySem.W.keepIn K (.ref a_are_words) = true)
    (n_are_middles : PySem.W.nsIn K mainGlobals "are_middles" = some (some (.ref a_are_middles)))
    (l_are_middles : K.lookup a_are_middles = some ⟨oc_are_middles, od_are_middles, .func (PySem.W.fnOf "are_middles" "are_middles" (defArgs s_are_middles) (defBody s_are_middles) (defScope s_are_middles) .none kV_are_middles dc_are_middles pm_are_middles an_are_middles cd_are_middles ct_are_middles), sl_are_middles⟩)
    (c_are_middles : PySem.W.codeIn K cd_are_middles "are_middles" = true)
    (k_are_middles : PySem.W.keepIn K (.ref a_are_middles) = true)
    (n_shows_shut : PySem.W.nsIn K mainGlobals "shows_shut" = some (some (.ref a_shows_shut)))
    (l_shows_shut : K.lookup a_shows_shut = some ⟨oc_shows_shut, od_shows_shut, .func (PySem.W.fnOf "shows_shut" "shows_shut" (defArgs s_shows_shut) (defBody s_shows_shut) (defScope s_shows_shut) .none kV_shows_shut dc_shows_shut pm_shows_shut an_shows_shut cd_shows_shut ct_shows_shut), sl_shows_shut⟩)
    (c_shows_shut : PySem.W.codeIn K cd_shows_shut "shows_shut" = true)
    (k_shows_shut : PySem.W.keepIn K (.ref a_shows_shut) = true)
    (n_shows : PySem.W.nsIn K mainGlobals "shows" = some (some (.ref a_shows)))
    (l_shows : K.lookup a_shows = some ⟨oc_shows, od_shows, .func (PySem.W.fnOf "shows" "shows" (defArgs s_shows) (defBody s_shows) (defScope s_shows) .none kV_shows dc_shows pm_shows an_shows cd_shows ct_shows), sl_shows⟩)
    (c_shows : PySem.W.codeIn K cd_shows "shows" = true)
    (k_shows : PySem.W.keepIn K (.ref a_shows) = true)
    (n_law : PySem.W.nsIn K mainGlobals "law" = some (some (.ref a_law)))
    (l_law : K.lookup a_law = some ⟨oc_law, od_law, .func (PySem.W.fnOf "law" "law" (defArgs s_law) (defBody s_law) (defScope s_law) .none kV_law dc_law pm_law an_law cd_law ct_law), sl_law⟩)
    (c_law : PySem.W.codeIn K cd_law "law" = true)
    (k_law : PySem.W.keepIn K (.ref a_law) = true)
    (pg_Goer : PySem.W.plainGet K C_Goer Str.empty = true)
    (hd_Goer : PySem.W.hasDictIn K C_Goer = true)
    (po_Goer : PySem.W.plainOver K C_Goer = true)
    (sa_Goer : PySem.W.findIn K (.ref C_Goer) "__setattr__" = some (some (.builtin "object.__setattr__")))
    (mk_Goer : PySem.W.makesIn K C_Goer = true)
    (kc_Goer : PySem.W.keepIn K (.ref C_Goer) = true)
    (f_Goer_table : PySem.W.findIn K (.ref C_Goer) "table" = some none)
    (f_Goer_row : PySem.W.findIn K (.ref C_Goer) "row" = some none)
    (f_Goer_spot : PySem.W.findIn K (.ref C_Goer) "spot" = some none)
    (f_Goer_signs : PySem.W.findIn K (.ref C_Goer) "signs" = some none)
    (f_Goer_steps : PySem.W.findIn K (.ref C_Goer) "steps" = some none)
    (pg_Log : PySem.W.plainGet K C_Log Str.empty = true)
    (hd_Log : PySem.W.hasDictIn K C_Log = true)
    (po_Log : PySem.W.plainOver K C_Log = true)
    (sa_Log : PySem.W.findIn K (.ref C_Log) "__setattr__" = some (some (.builtin "object.__setattr__")))
    (mk_Log : PySem.W.makesIn K C_Log = true)
    (kc_Log : PySem.W.keepIn K (.ref C_Log) = true)
    (f_Log_rows : PySem.W.findIn K (.ref C_Log) "rows" = some none)
    (f_Log_places : PySem.W.findIn K (.ref C_Log) "places" = some none)
    (f_Log_strips : PySem.W.findIn K (.ref C_Log) "strips" = some none)
    (f_Log_has_ended : PySem.W.findIn K (.ref C_Log) "has_ended" = some none)
    (n_MOST_ROWS_tree : PySem.W.nsIn K mainGlobals "MOST_ROWS_tree" = some (some (.int 4 tk_MOST_ROWS_tree)))
    (n_MOST_ENTRIES : PySem.W.nsIn K mainGlobals "MOST_ENTRIES" = some (some (.int 4 tk_MOST_ENTRIES)))
    (n_MOST_ROWS_machines : PySem.W.nsIn K mainGlobals "MOST_ROWS_machines" = some (some (.int 4 tk_MOST_ROWS_machines)))
    (n_MOST_SIGNS : PySem.W.nsIn K mainGlobals "MOST_SIGNS" = some (some (.int 4 tk_MOST_SIGNS)))
    (n_MOST_WORDS : PySem.W.nsIn K mainGlobals "MOST_WORDS" = some (some (.int 16 tk_MOST_WORDS)))
    (n_MOST_PARTS : PySem.W.nsIn K mainGlobals "MOST_PARTS" = some (some (.int 300 tk_MOST_PARTS)))
    (n_MOST_DEPTH : PySem.W.nsIn K mainGlobals "MOST_DEPTH" = some (some (.int 8 tk_MOST_DEPTH)))
    (n_MOST_STEPS : PySem.W.nsIn K mainGlobals "MOST_STEPS" = some (some (.int 200 tk_MOST_STEPS)))
    (n_MOST_LOOKED : PySem.W.nsIn K mainGlobals "MOST_LOOKED" = some (some (.int 60 tk_MOST_LOOKED)))
    (n_MOST_DEEP : PySem.W.nsIn K mainGlobals "MOST_DEEP" = some (some (.int 8 tk_MOST_DEEP)))
    (z_range : PySem.W.nsIn K mainGlobals "range" = some none)
    (z_len : PySem.W.nsIn K mainGlobals "len" = some none)
    (z_all : PySem.W.nsIn K mainGlobals "all" = some none)
    (z_dict : PySem.W.nsIn K mainGlobals "dict" = some none)
    (z_sorted : PySem.W.nsIn K mainGlobals "sorted" = some none)
    (z_list : PySem.W.nsIn K mainGlobals "list" = some none)
    (z_int : PySem.W.nsIn K mainGlobals "int" = some none)
    (z_min : PySem.W.nsIn K mainGlobals "min" = some none)
    (z_max : PySem.W.nsIn K mainGlobals "max" = some none)
    (z_tuple : PySem.W.nsIn K mainGlobals "tuple" = some none)
    (z_sum : PySem.W.nsIn K mainGlobals "sum" = some none)
    (z_isinstance : PySem.W.nsIn K mainGlobals "isinstance" = some none)
    (z_str : PySem.W.nsIn K mainGlobals "str" = some none)
    (z_bool : PySem.W.nsIn K mainGlobals "bool" = some none)
    (z_enumerate : PySem.W.nsIn K mainGlobals "enumerate" = some none) :
    ∃ fd : FuncData, (∀ (s : Shared) (v : Value), BindsTo s fd ⟨[v], []⟩ [("_law_script", v)]) ∧ ∀ base : Heap, K.In base → base.Ns mainGlobals mg → FnOk l.prog w K mg base CX0 9 fa fd ["_law_script"] (sp_law K) :=
  all_mk X G hfa (all_tx X G n_NoSize n_NoMachine n_Goer n_Log n_L_mixed l_L_mixed c_L_mixed k_L_mixed n_L_purse l_L_purse c_L_purse k_L_purse n_L_draw l_L_draw c_L_draw k_L_draw n_must_size l_must_size c_must_size k_must_size n_empty_machine l_empty_machine c_empty_machine k_empty_machine n_is_entry l_is_entry c_is_entry k_is_entry n_is_machine l_is_machine c_is_machine k_is_machine n_must_machine l_must_machine c_must_machine k_must_machine n_Goer_init i_Goer_init l_Goer_init c_Goer_init k_Goer_init n_Goer_entry i_Goer_entry l_Goer_entry c_Goer_entry k_Goer_entry n_Goer_step i_Goer_step l_Goer_step c_Goer_step k_Goer_step n_gone l_gone c_gone k_gone n_told_strip l_told_strip c_told_strip k_told_strip n_Goer_setup i_Goer_setup l_Goer_setup c_Goer_setup k_Goer_setup n_run l_run c_run k_run n_is_width l_is_width c_is_width k_is_width n_entry_for l_entry_for c_entry_for k_entry_for n_led_right l_led_right c_led_right k_led_right n_led_left l_led_left c_led_left k_led_left n_put_new l_put_new c_put_new k_put_new n_grown l_grown c_grown k_grown n_least_told l_least_told c_least_told k_least_told n_shut_paper l_shut_paper c_shut_paper k_shut_paper n_plain l_plain c_plain k_plain n_Log_init i_Log_init l_Log_init c_Log_init k_Log_init n_Log_last i_Log_last l_Log_last c_Log_last k_Log_last n_Log_same i_Log_same l_Log_same c_Log_same k_Log_same n_ring l_ring c_ring k_ring n_Log_drifts i_Log_drifts l_Log_drifts c_Log_drifts k_Log_drifts n_drift l_drift c_drift k_drift n_ends_of l_ends_of c_ends_of k_ends_of n_ahead_of l_ahead_of c_ahead_of k_ahead_of n_gone_back l_gone_back c_gone_back k_gone_back n_first_empty l_first_empty c_first_empty k_first_empty n_ends_behind l_ends_behind c_ends_behind k_ends_behind n_is_back l_is_back c_is_back k_is_back n_no_back l_no_back c_no_back k_no_back n_sorted_as l_sorted_as c_sorted_as k_sorted_as n_met_at l_met_at c_met_at k_met_at n_all_entries l_all_entries c_all_entries k_all_entries n_named_signs l_named_signs c_named_signs k_named_signs n_with_entry l_with_entry c_with_entry k_with_entry n_named_rows l_named_rows c_named_rows k_named_rows n_children l_children c_children k_children n_tree l_tree c_tree k_tree n_L_met l_L_met c_L_met k_L_met n_L_named_things l_L_named_things c_L_named_things k_L_named_things n_L_children l_L_children c_L_children k_L_children n_L_nodes l_L_nodes c_L_nodes k_L_nodes n_L_plainly l_L_plainly c_L_plainly k_L_plainly n_is_ring l_is_ring c_is_ring k_is_ring n_is_drift l_is_drift c_is_drift k_is_drift n_are_words l_are_words c_are_words k_are_words n_are_middles l_are_middles c_are_middles k_are_middles n_shows_shut l_shows_shut c_shows_shut k_shows_shut n_shows l_shows c_shows k_shows n_law l_law c_law k_law pg_Goer hd_Goer po_Goer sa_Goer mk_Goer kc_Goer f_Goer_table f_Goer_row f_Goer_spot f_Goer_signs f_Goer_steps pg_Log hd_Log po_Log sa_Log mk_Log kc_Log f_Log_rows f_Log_places f_Log_strips f_Log_has_ended n_MOST_ROWS_tree n_MOST_ENTRIES n_MOST_ROWS_machines n_MOST_SIGNS n_MOST_WORDS n_MOST_PARTS n_MOST_DEPTH n_MOST_STEPS n_MOST_LOOKED n_MOST_DEEP z_range z_len z_all z_dict z_sorted z_list z_int z_min z_max z_tuple z_sum z_isinstance z_str z_bool z_enumerate) ⟨_, _, _, _, _, _, rfl⟩
end E
open PySem PySem.W PyProof.Rows
set_option maxRecDepth 100000 in
set_option maxHeartbeats 0 in
theorem PySem.Challenge.cw_endnever_k57_trees_holds : PySem.Challenge.rw_endnever_k57_trees.Holds := by
  w_on; o_law; k_head; (case hw => w_witness2)
  k_fill
  refine E.walk (l := PySem.Challenge.rw_endnever_k57_trees) rfl rfl (fun w h Y => PySem.W.kIn_of Y) ?F
  case F =>
    intro w mg fa h KX G hmg
    refine' E.all_go KX G hmg ?n_NoSize ?n_NoMachine ?n_Goer ?n_Log ?n_L_mixed ?l_L_mixed ?c_L_mixed ?k_L_mixed ?n_L_purse ?l_L_purse ?c_L_purse ?k_L_purse ?n_L_draw ?l_L_draw ?c_L_draw ?k_L_draw ?n_must_size ?l_must_size ?c_must_size ?k_must_size ?n_empty_machine ?l_empty_machine ?c_empty_machine ?k_empty_machine ?n_is_entry ?l_is_entry ?c_is_entry ?k_is_entry ?n_is_machine ?l_is_machine ?c_is_machine ?k_is_machine ?n_must_machine ?l_must_machine ?c_must_machine ?k_must_machine ?n_Goer_init ?i_Goer_init ?l_Goer_init ?c_Goer_init ?k_Goer_init ?n_Goer_entry ?i_Goer_entry ?l_Goer_entry ?c_Goer_entry ?k_Goer_entry ?n_Goer_step ?i_Goer_step ?l_Goer_step ?c_Goer_step ?k_Goer_step ?n_gone ?l_gone ?c_gone ?k_gone ?n_told_strip ?l_told_strip ?c_told_strip ?k_told_strip ?n_Goer_setup ?i_Goer_setup ?l_Goer_setup ?c_Goer_setup ?k_Goer_setup ?n_run ?l_run ?c_run ?k_run ?n_is_width ?l_is_width ?c_is_width ?k_is_width ?n_entry_for ?l_entry_for ?c_entry_for ?k_entry_for ?n_led_right ?l_led_right ?c_led_right ?k_led_right ?n_led_left ?l_led_left ?c_led_left ?k_led_left ?n_put_new ?l_put_new ?c_put_new ?k_put_new ?n_grown ?l_grown ?c_grown ?k_grown ?n_least_told ?l_least_told ?c_least_told ?k_least_told ?n_shut_paper ?l_shut_paper ?c_shut_paper ?k_shut_paper ?n_plain ?l_plain ?c_plain ?k_plain ?n_Log_init ?i_Log_init ?l_Log_init ?c_Log_init ?k_Log_init ?n_Log_last ?i_Log_last ?l_Log_last ?c_Log_last ?k_Log_last ?n_Log_same ?i_Log_same ?l_Log_same ?c_Log_same ?k_Log_same ?n_ring ?l_ring ?c_ring ?k_ring ?n_Log_drifts ?i_Log_drifts ?l_Log_drifts ?c_Log_drifts ?k_Log_drifts ?n_drift ?l_drift ?c_drift ?k_drift ?n_ends_of ?l_ends_of ?c_ends_of ?k_ends_of ?n_ahead_of ?l_ahead_of ?c_ahead_of ?k_ahead_of ?n_gone_back ?l_gone_back ?c_gone_back ?k_gone_back ?n_first_empty ?l_first_empty ?c_first_empty ?k_first_empty ?n_ends_behind ?l_ends_behind ?c_ends_behind ?k_ends_behind ?n_is_back ?l_is_back ?c_is_back ?k_is_back ?n_no_back ?l_no_back ?c_no_back ?k_no_back ?n_sorted_as ?l_sorted_as ?c_sorted_as ?k_sorted_as ?n_met_at ?l_met_at ?c_met_at ?k_met_at ?n_all_entries ?l_all_entries ?c_all_entries ?k_all_entries ?n_named_signs ?l_named_signs ?c_named_signs ?k_named_signs ?n_with_entry ?l_with_entry ?c_with_entry ?k_with_entry ?n_named_rows ?l_named_rows ?c_named_rows ?k_named_rows ?n_children ?l_children ?c_children ?k_children ?n_tree ?l_tree ?c_tree ?k_tree ?n_L_met ?l_L_met ?c_L_met ?k_L_met ?n_L_named_things ?l_L_named_things ?c_L_named_things ?k_L_named_things ?n_L_children ?l_L_children ?c_L_children ?k_L_children ?n_L_nodes ?l_L_nodes ?c_L_nodes ?k_L_nodes ?n_L_plainly ?l_L_plainly ?c_L_plainly ?k_L_plainly ?n_is_ring ?l_is_ring ?c_is_ring ?k_is_ring ?n_is_drift ?l_is_drift ?c_is_drift ?k_is_drift ?n_are_words ?l_are_words ?c_are_words ?k_are_words ?n_are_middles ?l_are_middles ?c_are_middles ?k_are_middles ?n_shows_shut ?l_shows_shut ?c_shows_shut ?k_shows_shut ?n_shows ?l_shows ?c_shows ?k_shows ?n_law ?l_law ?c_law ?k_law ?pg_Goer ?hd_Goer ?po_Goer ?sa_Goer ?mk_Goer ?kc_Goer ?f_Goer_table ?f_Goer_row ?f_Goer_spot ?f_Goer_signs ?f_Goer_steps ?pg_Log ?hd_Log ?po_Log ?sa_Log ?mk_Log ?kc_Log ?f_Log_rows ?f_Log_places ?f_Log_strips ?f_Log_has_ended ?n_MOST_ROWS_tree ?n_MOST_ENTRIES ?n_MOST_ROWS_machines ?n_MOST_SIGNS ?n_MOST_WORDS ?n_MOST_PARTS ?n_MOST_DEPTH ?n_MOST_STEPS ?n_MOST_LOOKED ?n_MOST_DEEP ?z_range ?z_len ?z_all ?z_dict ?z_sorted ?z_list ?z_int ?z_min ?z_max ?z_tuple ?z_sum ?z_isinstance ?z_str ?z_bool ?z_enumerate
    (case n_NoSize => k_is); (case n_NoMachine => k_is); (case n_Goer => k_is); (case n_Log => k_is); (case n_L_mixed => k_is); (case l_L_mixed => k_is); (case c_L_mixed => k_is); (case k_L_mixed => k_is)
    (case n_L_purse => k_is); (case l_L_purse => k_is); (case c_L_purse => k_is); (case k_L_purse => k_is); (case n_L_draw => k_is); (case l_L_draw => k_is); (case c_L_draw => k_is); (case k_L_draw => k_is)
    (case n_must_size => k_is); (case l_must_size => k_is); (case c_must_size => k_is); (case k_must_size => k_is); (case n_empty_machine => k_is); (case l_empty_machine => k_is); (case c_empty_machine => k_is); (case k_empty_machine => k_is)
    (case n_is_entry => k_is); (case l_is_entry => k_is); (case c_is_entry => k_is); (case k_is_entry => k_is); (case n_is_machine => k_is); (case l_is_machine => k_is); (case c_is_machine => k_is); (case k_is_machine => k_is)
    (case n_must_machine => k_is); (case l_must_machine => k_is); (case c_must_machine => k_is); (case k_must_machine => k_is); (case n_Goer_init => k_is); (case i_Goer_init => k_is); (case l_Goer_init => k_is); (case c_Goer_init => k_is)
    (case k_Goer_init => k_is); (case n_Goer_entry => k_is); (case i_Goer_entry => k_is); (case l_Goer_entry => k_is); (case c_Goer_entry => k_is); (case k_Goer_entry => k_is); (case n_Goer_step => k_is); (case i_Goer_step => k_is)
    (case l_Goer_step => k_is); (case c_Goer_step => k_is); (case k_Goer_step => k_is); (case n_gone => k_is); (case l_gone => k_is); (case c_gone => k_is); (case k_gone => k_is); (case n_told_strip => k_is)
    (case l_told_strip => k_is); (case c_told_strip => k_is); (case k_told_strip => k_is); (case n_Goer_setup => k_is); (case i_Goer_setup => k_is); (case l_Goer_setup => k_is); (case c_Goer_setup => k_is); (case k_Goer_setup => k_is)
    (case n_run => k_is); (case l_run => k_is); (case c_run => k_is); (case k_run => k_is); (case n_is_width => k_is); (case l_is_width => k_is); (case c_is_width => k_is); (case k_is_width => k_is)
    (case n_entry_for => k_is); (case l_entry_for => k_is); (case c_entry_for => k_is); (case k_entry_for => k_is); (case n_led_right => k_is); (case l_led_right => k_is); (case c_led_right => k_is); (case k_led_right => k_is)
    (case n_led_left => k_is); (case l_led_left => k_is); (case c_led_left => k_is); (case k_led_left => k_is); (case n_put_new => k_is); (case l_put_new => k_is); (case c_put_new => k_is); (case k_put_new => k_is)
    (case n_grown => k_is); (case l_grown => k_is); (case c_grown => k_is); (case k_grown => k_is); (case n_least_told => k_is); (case l_least_told => k_is); (case c_least_told => k_is); (case k_least_told => k_is)
    (case n_shut_paper => k_is); (case l_shut_paper => k_is); (case c_shut_paper => k_is); (case k_shut_paper => k_is); (case n_plain => k_is); (case l_plain => k_is); (case c_plain => k_is); (case k_plain => k_is)
    (case n_Log_init => k_is); (case i_Log_init => k_is); (case l_Log_init => k_is); (case c_Log_init => k_is); (case k_Log_init => k_is); (case n_Log_last => k_is); (case i_Log_last => k_is); (case l_Log_last => k_is)
    (case c_Log_last => k_is); (case k_Log_last => k_is); (case n_Log_same => k_is); (case i_Log_same => k_is); (case l_Log_same => k_is); (case c_Log_same => k_is); (case k_Log_same => k_is); (case n_ring => k_is)
    (case l_ring => k_is); (case c_ring => k_is); (case k_ring => k_is); (case n_Log_drifts => k_is); (case i_Log_drifts => k_is); (case l_Log_drifts => k_is); (case c_Log_drifts => k_is); (case k_Log_drifts => k_is)
    (case n_drift => k_is); (case l_drift => k_is); (case c_drift => k_is); (case k_drift => k_is); (case n_ends_of => k_is); (case l_ends_of => k_is); (case c_ends_of => k_is); (case k_ends_of => k_is)
    (case n_ahead_of => k_is); (case l_ahead_of => k_is); (case c_ahead_of => k_is); (case k_ahead_of => k_is); (case n_gone_back => k_is); (case l_gone_back => k_is); (case c_gone_back => k_is); (case k_gone_back => k_is)
    (case n_first_empty => k_is); (case l_first_empty => k_is); (case c_first_empty => k_is); (case k_first_empty => k_is); (case n_ends_behind => k_is); (case l_ends_behind => k_is); (case c_ends_behind => k_is); (case k_ends_behind => k_is)
    (case n_is_back => k_is); (case l_is_back => k_is); (case c_is_back => k_is); (case k_is_back => k_is); (case n_no_back => k_is); (case l_no_back => k_is); (case c_no_back => k_is); (case k_no_back => k_is)
    (case n_sorted_as => k_is); (case l_sorted_as => k_is); (case c_sorted_as => k_is); (case k_sorted_as => k_is); (case n_met_at => k_is); (case l_met_at => k_is); (case c_met_at => k_is); (case k_met_at => k_is)
    (case n_all_entries => k_is); (case l_all_entries => k_is); (case c_all_entries => k_is); (case k_all_entries => k_is); (case n_named_signs => k_is); (case l_named_signs => k_is); (case c_named_signs => k_is); (case k_named_signs => k_is)
    (case n_with_entry => k_is); (case l_with_entry => k_is); (case c_with_entry => k_is); (case k_with_entry => k_is); (case n_named_rows => k_is); (case l_named_rows => k_is); (case c_named_rows => k_is); (case k_named_rows => k_is)
    (case n_children => k_is); (case l_children => k_is); (case c_children => k_is); (case k_children => k_is); (case n_tree => k_is); (case l_tree => k_is); (case c_tree => k_is); (case k_tree => k_is)
    (case n_L_met => k_is); (case l_L_met => k_is); (case c_L_met => k_is); (case k_L_met => k_is); (case n_L_named_things => k_is); (case l_L_named_things => k_is); (case c_L_named_things => k_is); (case k_L_named_things => k_is)
    (case n_L_children => k_is); (case l_L_children => k_is); (case c_L_children => k_is); (case k_L_children => k_is); (case n_L_nodes => k_is); (case l_L_nodes => k_is); (case c_L_nodes => k_is); (case k_L_nodes => k_is)
    (case n_L_plainly => k_is); (case l_L_plainly => k_is); (case c_L_plainly => k_is); (case k_L_plainly => k_is); (case n_is_ring => k_is); (case l_is_ring => k_is); (case c_is_ring => k_is); (case k_is_ring => k_is)
    (case n_is_drift => k_is); (case l_is_drift => k_is); (case c_is_drift => k_is); (case k_is_drift => k_is); (case n_are_words => k_is); (case l_are_words => k_is); (case c_are_words => k_is); (case k_are_words => k_is)
    (case n_are_middles => k_is); (case l_are_middles => k_is); (case c_are_middles => k_is); (case k_are_middles => k_is); (case n_shows_shut => k_is); (case l_shows_shut => k_is); (case c_shows_shut => k_is); (case k_shows_shut => k_is)
    (case n_shows => k_is); (case l_shows => k_is); (case c_shows => k_is); (case k_shows => k_is); (case n_law => k_is); (case l_law => k_is); (case c_law => k_is); (case k_law => k_is)
    (case pg_Goer => k_is); (case hd_Goer => k_is); (case po_Goer => k_is); (case sa_Goer => k_is); (case mk_Goer => k_is); (case kc_Goer => k_is); (case f_Goer_table => k_is); (case f_Goer_row => k_is)
    (case f_Goer_spot => k_is); (case f_Goer_signs => k_is); (case f_Goer_steps => k_is); (case pg_Log => k_is); (case hd_Log => k_is); (case po_Log => k_is); (case sa_Log => k_is); (case mk_Log => k_is)
    (case kc_Log => k_is); (case f_Log_rows => k_is); (case f_Log_places => k_is); (case f_Log_strips => k_is); (case f_Log_has_ended => k_is); (case n_MOST_ROWS_tree => k_is); (case n_MOST_ENTRIES => k_is); (case n_MOST_ROWS_machines => k_is)
    (case n_MOST_SIGNS => k_is); (case n_MOST_WORDS => k_is); (case n_MOST_PARTS => k_is); (case n_MOST_DEPTH => k_is); (case n_MOST_STEPS => k_is); (case n_MOST_LOOKED => k_is); (case n_MOST_DEEP => k_is); (case z_range => k_is)
    (case z_len => k_is); (case z_all => k_is); (case z_dict => k_is); (case z_sorted => k_is); (case z_list => k_is); (case z_int => k_is); (case z_min => k_is); (case z_max => k_is)
    (case z_tuple => k_is); (case z_sum => k_is); (case z_isinstance => k_is); (case z_str => k_is); (case z_bool => k_is); (case z_enumerate => k_is)
#print axioms PySem.Challenge.cw_endnever_k57_trees_holds
