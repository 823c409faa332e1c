import PyProof.Rows.All
import Wide.All
import OpenK.AllK
import Wide.FinOn
import HandS.ForMost
import HandS.SortRule
import HandS.IsInst
import HandS.TupAny
import HandS.TupMul
import HandS.Walk
import HandS.More
import HandS.ListItems
import HandS.Wide
import KE.KTupSum
import HandS.Style
import HandS.Deep
import HandS.SortInts
import KE.GoesMore
import PySem.Challenge.RW_endnever_k93_whole_blocks_of_four
set_option Elab.async false
set_option maxRecDepth 100000
set_option maxHeartbeats 4000000
namespace E
open PySem L2
/-! ### small words of our own -/
theorem inr_int {x : V} {ns : List Int} {i : Nat} (h : (ns.map V.int)[i]? = some x) : ∃ z, x = V.int z ∧ ns[i]? = some z := by
  rw [List.getElem?_map] at h
  cases e : ns[i]? with
  | none => rw [e] at h; cases h
  | some z => rw [e] at h; exact ⟨z, (Option.some.inj h).symm, rfl⟩
/-- F stands in H, whatever comes to it -/
theorem sm_new {F H : Hp} {p : Addr} {o : HO} (s : Same F H) (n : H p = Option.none) : Same F (upd H p o) := fun b u e => by
  rw [upd_ne (ne_of_none (s b u e) n)]
  exact s b u e
theorem sm_set {F H : Hp} {p : Addr} {o : HO} (s : Same F H) (n : F p = Option.none) : Same F (upd H p o) := fun b u e => by
  rw [upd_ne (ne_of_none e n)]
  exact s b u e
theorem sm_up {H : Hp} {p : Addr} {o : HO} (n : H p = none) : Same H (upd H p o) := sm_new (Same.refl H) n
theorem cut_63 {ns : List Int} (h : ns.length ≤ 63) : cutV (ns.map V.int) none (some 63) = ns.map V.int := by
  unfold cutV
  have e1 : HT.sIx (ns.map V.int).length 0 none = 0 := rfl
  have e2 : HT.sIx (ns.map V.int).length (ns.map V.int).length (some 63) = (ns.map V.int).length := by
    simp only [HT.sIx, List.length_map]
    rw [if_neg (by decide), show (63 : Int).toNat = 63 from rfl]
    omega
  rw [e1, e2, List.drop_zero, Nat.sub_zero, List.take_length]
theorem ifT {c : Bool} {A B : Prop} (h : c = true) (a : A) : if c = true then A else B := by
  rw [if_pos h]; exact a
theorem ifF {c : Bool} {A B : Prop} (h : c = false) (b : B) : if c = true then A else B := by
  rw [h, if_neg Bool.false_ne_true]; exact b
theorem one_le : 1 ≤ sizeLine := by decide
theorem two_le : 2 ≤ sizeLine := by decide
theorem three_le : 3 ≤ sizeLine := by decide
theorem five_le : 5 ≤ sizeLine := by decide
theorem nil_le : 0 ≤ sizeLine := by decide
theorem lt_size {n : Nat} (h : n ≤ 1000000) : n < sizeLine := Nat.lt_of_le_of_lt h (by decide)
theorem le_size {n : Nat} (h : n ≤ 1000000) : n ≤ sizeLine := Nat.le_of_lt (lt_size h)
theorem pi_listK {X : Cx} {K : PySem.W.Frag} {tg l : Expr} {tl : TE} (e : X.K = K) (h : PE X l tl) : PI X tg l (iList K tl) := by
  subst e; exact pi_list h
theorem pi_tupK {X : Cx} {K : PySem.W.Frag} {tg l : Expr} {tl : TE} (e : X.K = K) (h : PE X l tl) : PI X tg l (iTup K tl) := by
  subst e; exact pi_tup h
theorem crK {X : Cx} {K : PySem.W.Frag} {f : Value} {r : PySem.W.Frag → List V → Hp → VK → Prop} (e : X.K = K) (h : CallR X f (r X.K)) : CallR X f (r K) := by
  subst e; exact h
theorem orK {X : Cx} {K : PySem.W.Frag} {f : Value → Value → Sem Value} {r : PySem.W.Frag → R2} (e : X.K = K) (h : OpR X f (r X.K)) : OpR X f (r K) := by
  subst e; exact h
theorem ixK {X : Cx} {K : PySem.W.Frag} {r : PySem.W.Frag → R2} (e : X.K = K) (h : IxR X (r X.K)) : IxR X (r K) := by
  subst e; exact h
theorem slK {X : Cx} {K : PySem.W.Frag} {r : PySem.W.Frag → V → Option Int → Option Int → Hp → VK → Prop} (e : X.K = K) (h : SlR X (r X.K)) : SlR X (r K) := by
  subst e; exact h
def rLenQ (K : PySem.W.Frag) : List V → Hp → VK → Prop := fun xs H Q => ∃ p ys, xs = [.ref p] ∧ (SqL K H p ys ∨ SqT K H p ys) ∧ Q (.int ys.length) H
def rListQ (K : PySem.W.Frag) : List V → Hp → VK → Prop := fun xs H Q => ∃ p ys, xs = [.ref p] ∧ (SqL K H p ys ∨ SqT K H p ys) ∧ ∀ l, H l = none → Q (.ref l) (upd H l (.lst ys))
def rTupQ (K : PySem.W.Frag) : List V → Hp → VK → Prop := fun xs H Q => ∃ p ys, xs = [.ref p] ∧ ((SqL K H p ys ∧ ∀ l, H l = none → Q (.ref l) (upd H l (.tup ys))) ∨ (SqT K H p ys ∧ Q (.ref p) H))
theorem ne_of_none' {F H : Hp} {q : Addr} (s : Same F H) (n : H q = none) : F q = none := s.free n
/-- a comprehension without a test: its item comes in -/
theorem yes {σ : St} {H : Hp} {A : Hp → Prop} {B : Hp → Prop} (a : A H) : tYes σ H (fun b H3 => if b = true then A H3 else B H3) := by
  show if true = true then A H else B H
  rw [if_pos rfl]; exact a
theorem call_lenQ {X : Cx} : CallR X (.builtin "len") (rLenQ X.K) := call_len_seq
theorem call_listQ {X : Cx} : CallR X (.type "list") (rListQ X.K) := call_list_of
theorem call_tupQ {X : Cx} : CallR X (.type "tuple") (rTupQ X.K) := call_tuple_of
@[irreducible] def rDictP (K : PySem.W.Frag) : List V → Hp → VK → Prop := fun xs H Q => ∃ (a : Addr) (ps : List Addr) (kvs : List (Key × V)), xs = [.ref a] ∧ SqL K H a (ps.map V.ref) ∧ Paired (fun p kv => SqT K H p [kV kv.1, kv.2]) ps kvs ∧ ∀ p, H p = none → Q (.ref p) (upd H p (.dK (mergeK [] kvs)))
theorem call_dictQ {X : Cx} (hc : X.calm = true) : CallR X (.type "dict") (rDictP X.K) := by
  unfold rDictP
  exact call_dictP hc
@[irreducible] def rSortQ (K : PySem.W.Frag) : List V → Hp → VK → Prop := rSortedPO K
theorem call_sortQ {X : Cx} : CallR X (.builtin "sorted") (rSortQ X.K) := by
  unfold rSortQ
  exact cr_sortedPO
theorem pg_tupK {X : Cx} {K : PySem.W.Frag} {es : List Expr} {k n : Nat} {t : TGs} {pos : Pos} (e : X.K = K) (hc : X.calm = true) (h : PGs X es t) (hn : (assignEach es X.env).length = n := by rfl) (hst : (assignEach es X.env).findIdx? (·.1) = none := by rfl) : PG X (.Tuple es k pos) (gTup K n t) := by
  subst e; exact pg_tup hc h hn hst
theorem pe_fldK {X : Cx} {K : PySem.W.Frag} {e : Expr} {f : Str} {pos : Pos} {ta : TE} (ek : X.K = K) (he : PE X e ta) (hb : attributeBase e f X.env (eval e X.env) = eval e X.env) : PE X (.Attribute e f pos) (tFld K ta f) := by
  subst ek; exact pe_fld he hb
/-! ### what stands, what is new: F the frozen part (nobody changes it), H the heap; from F, H to F', H' with changes at mu alone -/
structure Gr (mu : Addr → Prop) (F H F' H' : Hp) : Prop where
  ff : Same F F'
  fh : Same F' H'
  nw : ∀ c o, F' c = some o → F c = some o ∨ H c = none
  fr : ∀ c o, H c = some o → ¬ mu c → H' c = some o
  th : ∀ c, H' c = none → H c = none
/-- nothing but new things -/
abbrev mu0 : Addr → Prop := fun _ => False
/-- the purse alone -/
abbrev muP (p : Addr) : Addr → Prop := fun c => c = p
section
variable {mu : Addr → Prop} {F H F1 H1 F2 H2 : Hp} {q : Addr} {o u : HO}
theorem Gr.refl (s : Same F H) : Gr mu F H F H := ⟨fun _ _ h => h, s, fun _ _ h => .inl h, fun _ _ h _ => h, fun _ h => h⟩
theorem Gr.trans (a : Gr mu F H F1 H1) (b : Gr mu F1 H1 F2 H2) : Gr mu F H F2 H2 where
  ff := fun c o h => b.ff c o (a.ff c o h)
  fh := b.fh
  nw := fun c o h => by
    rcases b.nw c o h with h | h
    · exact a.nw c o h
    · exact .inr (a.th c h)
  fr := fun c o h m => b.fr c o (a.fr c o h m) m
  th := fun c h => a.th c (b.th c h)
/-- a part that changes what is ours, or what mu has -/
theorem Gr.thn {mu' : Addr → Prop} (a : Gr mu F H F1 H1) (b : Gr mu' F1 H1 F2 H2) (k : ∀ c, mu' c → mu c ∨ H c = none) : Gr mu F H F2 H2 where
  ff := fun c o h => b.ff c o (a.ff c o h)
  fh := b.fh
  nw := fun c o h => by
    rcases b.nw c o h with h | h
    · exact a.nw c o h
    · exact .inr (a.th c h)
  fr := fun c o h m => b.fr c o (a.fr c o h m) fun z => (k c z).elim m fun n => by rw [n] at h; cases h
  th := fun c h => a.th c (b.th c h)
theorem Gr.weak {mu' : Addr → Prop} (a : Gr mu F H F1 H1) (m : ∀ c, mu c → mu' c) : Gr mu' F H F1 H1 :=
  ⟨a.ff, a.fh, a.nw, fun c o h n => a.fr c o h fun z => n (m c z), a.th⟩
theorem Gr.of0 (a : Gr mu0 F H F1 H1) : Gr mu F H F1 H1 := a.weak fun _ z => z.elim
/-- a new thing that nobody will change -/
theorem Gr.new (a : Gr mu F H F1 H1) (n : H1 q = none) : Gr mu F H (upd F1 q o) (upd H1 q o) where
  ff := fun c o h => by
    rw [upd_ne (ne_of_none (a.fh c o (a.ff c o h)) n)]
    exact a.ff c o h
  fh := fun c u h => by
    by_cases e : c = q
    · subst e; rw [upd_same] at h ⊢; exact h
    · rw [upd_ne e] at h ⊢; exact a.fh c u h
  nw := fun c u h => by
    by_cases e : c = q
    · subst e; exact .inr (a.th _ n)
    · rw [upd_ne e] at h; exact a.nw c u h
  fr := fun c u h m => by
    rw [upd_ne (ne_of_none (a.fr c u h m) n)]
    exact a.fr c u h m
  th := fun c h => by
    by_cases e : c = q
    · subst e; rw [upd_same] at h; cases h
    · rw [upd_ne e] at h; exact a.th c h
/-- a new thing that may be changed yet -/
theorem Gr.own (a : Gr mu F H F1 H1) (n : H1 q = none) : Gr mu F H F1 (upd H1 q o) where
  ff := a.ff
  fh := fun c u h => by
    rw [upd_ne (ne_of_none (a.fh c u h) n)]
    exact a.fh c u h
  nw := a.nw
  fr := fun c u h m => by
    rw [upd_ne (ne_of_none (a.fr c u h m) n)]
    exact a.fr c u h m
  th := fun c h => by
    by_cases e : c = q
    · subst e; rw [upd_same] at h; cases h
    · rw [upd_ne e] at h; exact a.th c h
/-- a change of what is ours, and not frozen -/
theorem Gr.set (a : Gr mu F H F1 H1) (f : F1 q = none) (m : H q = none ∨ mu q) : Gr mu F H F1 (upd H1 q o) where
  ff := a.ff
  fh := fun c u h => by
    rw [upd_ne (ne_of_none h f)]
    exact a.fh c u h
  nw := a.nw
  fr := fun c u h k => by
    have e : c ≠ q := by
      rintro rfl
      rcases m with m | m
      · rw [m] at h; cases h
      · exact k m
    rw [upd_ne e]
    exact a.fr c u h k
  th := fun c h => by
    by_cases e : c = q
    · subst e; rw [upd_same] at h; cases h
    · rw [upd_ne e] at h; exact a.th c h
/-- what was ours is changed no more -/
theorem Gr.frz (a : Gr mu F H F1 H1) (h : H1 q = some o) (n : H q = none) (f : F1 q = none) : Gr mu F H (upd F1 q o) H1 where
  ff := fun c u e => by
    rw [upd_ne (ne_of_none (a.ff c u e) f)]
    exact a.ff c u e
  fh := fun c u e => by
    by_cases k : c = q
    · subst k; rw [upd_same] at e; cases e; exact h
    · rw [upd_ne k] at e; exact a.fh c u e
  nw := fun c u e => by
    by_cases k : c = q
    · subst k; exact .inr n
    · rw [upd_ne k] at e; exact a.nw c u e
  fr := a.fr
  th := a.th
theorem Gr.free (a : Gr mu F H F1 H1) (n : H1 q = none) : F1 q = none := a.fh.free n
end
/-- an owned thing: new since H, not frozen, it is o now -/
structure Ow (H F H1 : Hp) (q : Addr) (o : HO) : Prop where
  n : H q = none
  f : F q = none
  h : H1 q = some o
section
variable {mu mu' : Addr → Prop} {H0 F H F1 H1 : Hp} {q r : Addr} {o u : HO}
theorem Ow.call (w : Ow H0 F H q o) (a : Gr mu F H F1 H1) (m : ¬ mu q) : Ow H0 F1 H1 q o :=
  ⟨w.n, (by
    cases e : F1 q with
    | none => rfl
    | some z =>
      rcases a.nw q z e with k | k
      · rw [w.f] at k; cases k
      · rw [w.h] at k; cases k), a.fr q o w.h m⟩
theorem Ow.ne (w : Ow H0 F H q o) (n : H r = none) : q ≠ r := ne_of_none w.h n
theorem Ow.new (w : Ow H0 F H q o) (n : H r = none) : Ow H0 (upd F r u) (upd H r u) q o :=
  ⟨w.n, by rw [upd_ne (w.ne n)]; exact w.f, by rw [upd_ne (w.ne n)]; exact w.h⟩
theorem Ow.own (w : Ow H0 F H q o) (n : H r = none) : Ow H0 F (upd H r u) q o :=
  ⟨w.n, w.f, by rw [upd_ne (w.ne n)]; exact w.h⟩
theorem Ow.mk1 (a : Gr mu H0' H0 F H) (n : H q = none) : Ow H0 F (upd H q o) q o := ⟨a.th q n, a.free n, upd_same⟩
theorem Ow.set (w : Ow H0 F H q o) : Ow H0 F (upd H q u) q u := ⟨w.n, w.f, upd_same⟩
theorem Ow.other (w : Ow H0 F H q o) (e : q ≠ r) : Ow H0 F (upd H r u) q o := ⟨w.n, w.f, by rw [upd_ne e]; exact w.h⟩
end
/-! ### what stands for a datum -/
def All2 {α β : Type} (r : α → β → Prop) (xs : List α) (ys : List β) : Prop := xs.length = ys.length ∧ ∀ (i : Nat) (x : α) (y : β), xs[i]? = some x → ys[i]? = some y → r x y
section
variable {α β : Type} {r s : α → β → Prop} {xs xs' : List α} {ys ys' : List β}
theorem All2.nil : All2 r [] [] := ⟨rfl, fun i x y h => by simp at h⟩
theorem All2.get (a : All2 r xs ys) {i : Nat} {y : β} (h : ys[i]? = some y) : ∃ x, xs[i]? = some x ∧ r x y := by
  have l := (List.getElem?_eq_some_iff.mp h).1
  have l' : i < xs.length := by rw [a.1]; exact l
  exact ⟨xs[i], List.getElem?_eq_getElem l', a.2 i _ y (List.getElem?_eq_getElem l') h⟩
theorem All2.get' (a : All2 r xs ys) {i : Nat} {x : α} (h : xs[i]? = some x) : ∃ y, ys[i]? = some y ∧ r x y := by
  have l := (List.getElem?_eq_some_iff.mp h).1
  have l' : i < ys.length := by rw [← a.1]; exact l
  exact ⟨ys[i], List.getElem?_eq_getElem l', a.2 i x _ h (List.getElem?_eq_getElem l')⟩
theorem All2.imp (a : All2 r xs ys) (f : ∀ x y, r x y → s x y) : All2 s xs ys := ⟨a.1, fun i x y h k => f x y (a.2 i x y h k)⟩
theorem All2.app (a : All2 r xs ys) (b : All2 r xs' ys') : All2 r (xs ++ xs') (ys ++ ys') := by
  refine ⟨by rw [List.length_append, List.length_append, a.1, b.1], fun i x y h k => ?_⟩
  by_cases l : i < xs.length
  · rw [List.getElem?_append_left l] at h
    rw [List.getElem?_append_left (by rw [← a.1]; exact l)] at k
    exact a.2 i x y h k
  · rw [List.getElem?_append_right (by omega)] at h
    rw [List.getElem?_append_right (by rw [← a.1]; omega), ← a.1] at k
    exact b.2 _ x y h k
theorem All2.one {x : α} {y : β} (h : r x y) : All2 r [x] [y] := ⟨rfl, fun i a b p q => by
  cases i with
  | zero => simp at p q; subst p; subst q; exact h
  | succ n => simp at p⟩
theorem All2.cons {x : α} {y : β} (h : r x y) (a : All2 r xs ys) : All2 r (x :: xs) (y :: ys) := (All2.one h).app a
theorem All2.set (a : All2 r xs ys) {x : α} {y : β} (h : r x y) (j : Nat) : All2 r (xs.set j x) (ys.set j y) := by
  refine ⟨by rw [List.length_set, List.length_set]; exact a.1, fun i u v p q => ?_⟩
  by_cases e : j = i
  · subst e
    rw [List.getElem?_set_self'] at p q
    cases e1 : xs[j]? with
    | none => rw [e1] at p; cases p
    | some z =>
      cases e2 : ys[j]? with
      | none => rw [e2] at q; cases q
      | some z2 =>
        rw [e1] at p; rw [e2] at q
        cases p; cases q
        exact h
  · rw [List.getElem?_set_ne e] at p q
    exact a.2 i u v p q
theorem All2.take (a : All2 r xs ys) (n : Nat) : All2 r (xs.take n) (ys.take n) := by
  refine ⟨by rw [List.length_take, List.length_take, a.1], fun i u v p q => ?_⟩
  rw [List.getElem?_take] at p q
  split at p
  · rw [if_pos (by assumption)] at q; exact a.2 i u v p q
  · cases p
theorem All2.drop (a : All2 r xs ys) (n : Nat) : All2 r (xs.drop n) (ys.drop n) := by
  refine ⟨by rw [List.length_drop, List.length_drop, a.1], fun i u v p q => ?_⟩
  rw [List.getElem?_drop] at p q
  exact a.2 _ u v p q
end
class Dat (α : Type) where
  rep : Hp → V → α → Prop
  mono : ∀ {H H' : Hp} {v : V} {d : α}, Same H H' → rep H v d → rep H' v d
  py : α → PyData
  dp : ∀ {K : PySem.W.Frag} {H : Hp} {v : V} {d : α}, rep H v d → Dp K H v (py d)
  can : ∀ d, (py d).canLay0 = true
  dep : Nat
  depth : ∀ d, (py d).depth ≤ dep
  eqv : ∀ a b, PyData.eqv (py a) (py b) = true ↔ a = b
section
variable {α β γ : Type}
/-- v stands for d in H -/
abbrev Is [Dat α] (H : Hp) (v : V) (d : α) : Prop := Dat.rep H v d
theorem Is.up [Dat α] {H H' : Hp} {v : V} {d : α} (h : Is H v d) (s : Same H H') : Is H' v d := Dat.mono s h
abbrev IsAll [Dat α] (H : Hp) (xs : List V) (ds : List α) : Prop := All2 (fun v d => Is H v d) xs ds
theorem IsAll.up [Dat α] {H H' : Hp} {xs : List V} {ds : List α} (h : IsAll H xs ds) (s : Same H H') : IsAll H' xs ds := h.imp fun _ _ z => Is.up z s
theorem dp_all [Dat α] {K : PySem.W.Frag} {H : Hp} : ∀ {xs : List V} {ds : List α}, IsAll H xs ds → DpAll K H xs (ds.map Dat.py)
  | [], [], _ => .nil
  | [], d :: ds, h => by have := h.1; simp at this
  | x :: xs, [], h => by have := h.1; simp at this
  | x :: xs, d :: ds, h => .cons (Dat.dp (h.2 0 x d rfl rfl)) (dp_all ⟨by have := h.1; simpa using this, fun i a b p q => h.2 (i + 1) a b (by simpa using p) (by simpa using q)⟩)
theorem can_all [Dat α] : ∀ ds : List α, PyData.canLayAll0 (ds.map Dat.py) = true
  | [] => rfl
  | d :: ds => by
    show (PyData.canLay0 (Dat.py d) && PyData.canLayAll0 (ds.map Dat.py)) = true
    rw [Dat.can, can_all ds]; rfl
theorem depth_all [Dat α] : ∀ ds : List α, PyData.depthAll (ds.map Dat.py) ≤ Dat.dep α
  | [] => Nat.zero_le _
  | d :: ds => by
    show max (PyData.depth (Dat.py d)) (PyData.depthAll (ds.map Dat.py)) ≤ _
    exact Nat.max_le.mpr ⟨Dat.depth d, depth_all ds⟩
theorem eqv_all [Dat α] : ∀ a b : List α, PyData.eqvAll (a.map Dat.py) (b.map Dat.py) = true ↔ a = b
  | [], [] => by simp [PyData.eqvAll]
  | [], _ :: _ => by simp [PyData.eqvAll]
  | _ :: _, [] => by simp [PyData.eqvAll]
  | x :: xs, y :: ys => by
    rw [List.map_cons, List.map_cons, PyData.eqvAll, Bool.and_eq_true, Dat.eqv, eqv_all xs ys, List.cons.injEq]
instance : Dat Int where
  rep := fun _ v i => v = .int i
  mono := fun _ h => h
  py := .int
  dp := fun h => h ▸ .int _
  can := fun _ => rfl
  dep := 0
  depth := fun _ => Nat.le_refl _
  eqv := fun a b => by simp [PyData.eqv]
instance : Dat Bool where
  rep := fun _ v i => v = .bl i
  mono := fun _ h => h
  py := .bool
  dp := fun h => h ▸ .bl _
  can := fun _ => rfl
  dep := 0
  depth := fun _ => Nat.le_refl _
  eqv := fun a b => by simp [PyData.eqv]
/-- a list of data -/
instance [Dat α] : Dat (List α) where
  rep := fun H v l => ∃ a xs, v = .ref a ∧ H a = some (.lst xs) ∧ IsAll H xs l
  mono := fun s h => by
    obtain ⟨a, xs, e, h, i⟩ := h
    exact ⟨a, xs, e, s _ _ h, IsAll.up i s⟩
  py := fun l => .list (l.map Dat.py)
  dp := fun h => by
    obtain ⟨a, xs, rfl, h, i⟩ := h
    exact .lst (SqL.of h) (dp_all i)
  can := fun d => can_all d
  dep := Dat.dep α + 1
  depth := fun d => Nat.succ_le_succ (depth_all d)
  eqv := fun a b => by rw [PyData.eqv]; exact eqv_all a b
/-- a tuple of data of one kind -/
structure Tup (α : Type) where
  l : List α
  deriving DecidableEq
instance [Dat α] : Dat (Tup α) where
  rep := fun H v l => ∃ a xs, v = .ref a ∧ H a = some (.tup xs) ∧ IsAll H xs l.l
  mono := fun s h => by
    obtain ⟨a, xs, e, h, i⟩ := h
    exact ⟨a, xs, e, s _ _ h, IsAll.up i s⟩
  py := fun l => .tuple (l.l.map Dat.py)
  dp := fun h => by
    obtain ⟨a, xs, rfl, h, i⟩ := h
    exact .tup (SqT.of h) (dp_all i)
  can := fun d => can_all d.l
  dep := Dat.dep α + 1
  depth := fun d => Nat.succ_le_succ (depth_all d.l)
  eqv := fun a b => by
    rw [PyData.eqv, eqv_all]
    obtain ⟨a⟩ := a; obtain ⟨b⟩ := b
    simp
/-- a pair; a triple -/
structure T2 (α β : Type) where
  a : α
  b : β
  deriving DecidableEq
structure T3 (α β γ : Type) where
  a : α
  b : β
  c : γ
  deriving DecidableEq
instance [Dat α] [Dat β] : Dat (T2 α β) where
  rep := fun H v d => ∃ p x y, v = .ref p ∧ H p = some (.tup [x, y]) ∧ Is H x d.a ∧ Is H y d.b
  mono := fun s h => by
    obtain ⟨p, x, y, e, h, i, j⟩ := h
    exact ⟨p, x, y, e, s _ _ h, Is.up i s, Is.up j s⟩
  py := fun d => .tuple [Dat.py d.a, Dat.py d.b]
  dp := fun h => by
    obtain ⟨p, x, y, rfl, h, i, j⟩ := h
    exact .tup (SqT.of h) (.cons (Dat.dp i) (.cons (Dat.dp j) .nil))
  can := fun d => by
    show (PyData.canLay0 (Dat.py d.a) && (PyData.canLay0 (Dat.py d.b) && true)) = true
    rw [Dat.can, Dat.can]; rfl
  dep := max (Dat.dep α) (Dat.dep β) + 1
  depth := fun d => by
    have h1 := Dat.depth d.a
    have h2 := Dat.depth d.b
    show max (PyData.depth (Dat.py d.a)) (max (PyData.depth (Dat.py d.b)) 0) + 1 ≤ _
    omega
  eqv := fun a b => by
    obtain ⟨a, a'⟩ := a; obtain ⟨b, b'⟩ := b
    simp [PyData.eqv, PyData.eqvAll, Dat.eqv]
instance [Dat α] [Dat β] [Dat γ] : Dat (T3 α β γ) where
  rep := fun H v d => ∃ p x y z, v = .ref p ∧ H p = some (.tup [x, y, z]) ∧ Is H x d.a ∧ Is H y d.b ∧ Is H z d.c
  mono := fun s h => by
    obtain ⟨p, x, y, z, e, h, i, j, k⟩ := h
    exact ⟨p, x, y, z, e, s _ _ h, Is.up i s, Is.up j s, Is.up k s⟩
  py := fun d => .tuple [Dat.py d.a, Dat.py d.b, Dat.py d.c]
  dp := fun h => by
    obtain ⟨p, x, y, z, rfl, h, i, j, k⟩ := h
    exact .tup (SqT.of h) (.cons (Dat.dp i) (.cons (Dat.dp j) (.cons (Dat.dp k) .nil)))
  can := fun d => by
    show (PyData.canLay0 (Dat.py d.a) && (PyData.canLay0 (Dat.py d.b) && (PyData.canLay0 (Dat.py d.c) && true))) = true
    rw [Dat.can, Dat.can, Dat.can]; rfl
  dep := max (Dat.dep α) (max (Dat.dep β) (Dat.dep γ)) + 1
  depth := fun d => by
    have h1 := Dat.depth d.a
    have h2 := Dat.depth d.b
    have h3 := Dat.depth d.c
    show max (PyData.depth (Dat.py d.a)) (max (PyData.depth (Dat.py d.b)) (max (PyData.depth (Dat.py d.c)) 0)) + 1 ≤ _
    omega
  eqv := fun a b => by
    obtain ⟨a, a', a''⟩ := a; obtain ⟨b, b', b''⟩ := b
    simp [PyData.eqv, PyData.eqvAll, Dat.eqv]
/-- None, or a datum that is a tuple or a list -/
class Big (α : Type) [Dat α] : Prop where
  big : ∀ d : α, (∃ l, Dat.py d = .tuple l) ∨ ∃ l, Dat.py d = .list l
instance [Dat α] : Big (List α) := ⟨fun d => .inr ⟨_, rfl⟩⟩
instance [Dat α] : Big (Tup α) := ⟨fun d => .inl ⟨_, rfl⟩⟩
instance [Dat α] [Dat β] : Big (T2 α β) := ⟨fun d => .inl ⟨_, rfl⟩⟩
instance [Dat α] [Dat β] [Dat γ] : Big (T3 α β γ) := ⟨fun d => .inl ⟨_, rfl⟩⟩
instance [Dat α] [Big α] : Dat (Option α) where
  rep := fun H v d => match d with
    | none => v = .non
    | some d => Is H v d
  mono := fun {H H' v d} s h => by
    cases d with
    | none => exact h
    | some d => exact Is.up (show Is H v d from h) s
  py := fun d => match d with
    | none => .none
    | some d => Dat.py d
  dp := fun {K H v d} h => by
    cases d with
    | none => cases h; exact .non
    | some d => exact Dat.dp (show Is H v d from h)
  can := fun d => by
    cases d with
    | none => rfl
    | some d => exact Dat.can d
  dep := Dat.dep α
  depth := fun d => by
    cases d with
    | none => exact Nat.zero_le _
    | some d => exact Dat.depth d
  eqv := fun a b => by
    cases a with
    | none =>
      cases b with
      | none => exact ⟨fun _ => rfl, fun _ => rfl⟩
      | some b =>
        refine ⟨fun h => ?_, fun h => nomatch h⟩
        have h : PyData.eqv .none (Dat.py b) = true := h
        rcases Big.big b with ⟨l, e⟩ | ⟨l, e⟩ <;> (rw [e] at h; simp only [PyData.eqv] at h; cases h)
    | some a =>
      cases b with
      | none =>
        refine ⟨fun h => ?_, fun h => nomatch h⟩
        have h : PyData.eqv (Dat.py a) .none = true := h
        rcases Big.big a with ⟨l, e⟩ | ⟨l, e⟩ <;> (rw [e] at h; simp only [PyData.eqv] at h; cases h)
      | some b =>
        show PyData.eqv (Dat.py a) (Dat.py b) = true ↔ _
        rw [Dat.eqv, Option.some.injEq]
end
/-- == and != of data -/
theorem eq_dat0 {α : Type} [Dat α] [DecidableEq α] {a b : α} (hd : Dat.dep α ≤ 64) : SeqAt.shaped (Dat.py a) = true ∧ SeqAt.shaped (Dat.py b) = true ∧ PyData.eqv (Dat.py a) (Dat.py b) = decide (a = b) := by
  refine ⟨?_, ?_, ?_⟩
  · show (PyData.canLay0 _ && decide _) = true
    rw [Dat.can, decide_eq_true (Nat.le_trans (Dat.depth a) hd)]; rfl
  · show (PyData.canLay0 _ && decide _) = true
    rw [Dat.can, decide_eq_true (Nat.le_trans (Dat.depth b) hd)]; rfl
  · rw [Bool.eq_iff_iff, Dat.eqv, decide_eq_true_iff]
theorem eq_dat {α : Type} [Dat α] [DecidableEq α] {K : PySem.W.Frag} {H : Hp} {x y : V} {a b : α} {Q : VK} (ha : Is H x a) (hb : Is H y b) (q : Q (.bl (decide (a = b))) H) (hd : Dat.dep α ≤ 64 := by decide) : rEqD K x y H Q := by
  obtain ⟨h1, h2, h3⟩ := eq_dat0 (a := a) (b := b) hd
  exact ⟨Dat.py a, Dat.py b, Dat.dp ha, Dat.dp hb, h1, h2, by rw [h3]; exact q⟩
theorem ne_dat {α : Type} [Dat α] [DecidableEq α] {K : PySem.W.Frag} {H : Hp} {x y : V} {a b : α} {Q : VK} (ha : Is H x a) (hb : Is H y b) (q : Q (.bl (!decide (a = b))) H) (hd : Dat.dep α ≤ 64 := by decide) : rNeD K x y H Q := by
  obtain ⟨h1, h2, h3⟩ := eq_dat0 (a := a) (b := b) hd
  exact ⟨Dat.py a, Dat.py b, Dat.dp ha, Dat.dp hb, h1, h2, by rw [h3]; exact q⟩
/-! ### machines -/
/-- an entry -/
inductive Ent where
  | emp
  | go (put way row : Int)
  deriving DecidableEq
def entO : Ent → HO
  | .emp => .tup []
  | .go p w r => .tup [.int p, .int w, .int r]
def entP : Ent → PyData
  | .emp => .tuple []
  | .go p w r => .tuple [.int p, .int w, .int r]
instance : Dat Ent where
  rep := fun H v e => ∃ a, v = .ref a ∧ H a = some (entO e)
  mono := fun s h => by obtain ⟨a, e, h⟩ := h; exact ⟨a, e, s _ _ h⟩
  py := entP
  dp := fun {K H v d} h => by
    obtain ⟨a, rfl, h⟩ := h
    cases d with
    | emp => exact .tup (SqT.of h) .nil
    | go p w r => exact .tup (SqT.of h) (.cons (.int _) (.cons (.int _) (.cons (.int _) .nil)))
  can := fun d => by cases d <;> rfl
  dep := 1
  depth := fun d => by cases d <;> simp [entP, PyData.depth, PyData.depthAll]
  eqv := fun a b => by cases a <;> cases b <;> simp [entP, PyData.eqv, PyData.eqvAll]
instance : Big Ent := ⟨fun d => by cases d <;> exact .inl ⟨_, rfl⟩⟩
abbrev Mach := List (List Ent)
/-! ### pairs of ints: a dict's items, sorted ones -/
abbrev PI := T2 Int Int
def dI (l : List PI) : List (Key × V) := l.map fun p => (Sum.inl p.a, V.int p.b)
def look (l : List PI) (x : Int) : Option Int := (l.find? fun p => decide (p.a = x)).map (·.b)
def put (l : List PI) (x v : Int) : List PI := if (l.any fun p => decide (p.a = x)) = true then l.map (fun p => if p.a = x then ⟨p.a, v⟩ else p) else l ++ [⟨x, v⟩]
def merge (l m : List PI) : List PI := m.foldl (fun acc p => put acc p.a p.b) l
theorem key_inl (a b : Int) : ((Sum.inl a : Key) = Sum.inl b) = (a = b) := propext ⟨Sum.inl.inj, fun h => by rw [h]⟩
theorem dI_val (x : Int) : ∀ l : List PI, valV (dI l) (Sum.inl x) = (look l x).map V.int
  | [] => rfl
  | p :: l => by
    have ih := dI_val x l
    show valV ((Sum.inl p.a, V.int p.b) :: dI l) (Sum.inl x) = _
    by_cases e : p.a = x
    · rw [valV_pos (by rw [key_inl]; exact e)]
      simp [look, e]
    · rw [valV_neg (by rw [key_inl]; exact e), ih]
      simp [look, e]
theorem dI_put (l : List PI) (x v : Int) : putK (dI l) (Sum.inl x) (.int v) = dI (put l x v) := by
  have e : ((dI l).any fun kv => decide (kv.1 = Sum.inl x)) = (l.any fun p => decide (p.a = x)) := by
    unfold dI
    rw [List.any_map]
    congr 1
    funext p
    simp only [Function.comp, key_inl]
  unfold putK put
  rw [e]
  by_cases a : (l.any fun p => decide (p.a = x)) = true
  · rw [if_pos a, if_pos a]
    unfold dI
    rw [List.map_map, List.map_map]
    congr 1
    funext p
    simp only [Function.comp, key_inl]
    by_cases h : p.a = x
    · rw [if_pos h, if_pos h]
    · rw [if_neg h, if_neg h]
  · rw [if_neg a, if_neg a]
    unfold dI
    rw [List.map_append]
    rfl
theorem dI_merge (m : List PI) : ∀ l : List PI, mergeK (dI l) (dI m) = dI (merge l m) := by
  induction m with
  | nil => intro l; rfl
  | cons p m ih =>
    intro l
    show mergeK (putK (dI l) (Sum.inl p.a) (.int p.b)) (dI m) = dI (merge (put l p.a p.b) m)
    rw [dI_put]
    exact ih _
theorem look_nil (x : Int) : look [] x = none := rfl
theorem look_cons (p : PI) (l : List PI) (x : Int) : look (p :: l) x = if p.a = x then some p.b else look l x := by
  unfold look
  rw [List.find?_cons]
  by_cases e : p.a = x
  · simp [e]
  · simp [e]
theorem look_any (x : Int) : ∀ l : List PI, (l.any fun p => decide (p.a = x)) = (look l x).isSome
  | [] => rfl
  | p :: l => by
    rw [List.any_cons, look_any x l, look_cons]
    by_cases e : p.a = x
    · simp [e]
    · simp [e]
theorem look_map (x y v : Int) : ∀ l : List PI, look (l.map fun p => if p.a = x then ⟨p.a, v⟩ else p) y = (look l y).map fun z => if y = x then v else z
  | [] => rfl
  | p :: l => by
    rw [List.map_cons, look_cons, look_cons, look_map x y v l]
    by_cases e : p.a = x
    · rw [if_pos e]
      by_cases f : p.a = y
      · rw [if_pos f, if_pos f]
        rw [← f, Option.map_some, if_pos e]
      · rw [if_neg f, if_neg f]
    · rw [if_neg e]
      by_cases f : p.a = y
      · rw [if_pos f, if_pos f, Option.map_some, if_neg (by rw [← f]; exact e)]
      · rw [if_neg f, if_neg f]
theorem look_app (l m : List PI) (x : Int) : look (l ++ m) x = (look l x).or (look m x) := by
  induction l with
  | nil => rfl
  | cons p l ih =>
    rw [List.cons_append, look_cons, look_cons, ih]
    by_cases e : p.a = x
    · rw [if_pos e, if_pos e]; rfl
    · rw [if_neg e, if_neg e]
theorem look_put (l : List PI) (x v y : Int) : look (put l x v) y = if y = x then some v else look l y := by
  unfold put
  by_cases a : (l.any fun p => decide (p.a = x)) = true
  · rw [if_pos a, look_map]
    by_cases e : y = x
    · rw [if_pos e, e]
      rw [look_any] at a
      obtain ⟨z, hz⟩ := Option.isSome_iff_exists.mp a
      rw [hz, Option.map_some, if_pos rfl]
    · rw [if_neg e]
      cases look l y with
      | none => rfl
      | some z => rw [Option.map_some, if_neg e]
  · rw [if_neg a, look_app]
    rw [look_any] at a
    by_cases e : y = x
    · rw [if_pos e, e]
      cases h : look l x with
      | none => rw [look_cons, if_pos rfl]; rfl
      | some z => rw [h] at a; exact absurd rfl a
    · rw [if_neg e, look_cons, if_neg (fun z => e z.symm), look_nil]
      cases look l y <;> rfl
/-- no place twice -/
def Nd (l : List PI) : Prop := (l.map (·.a)).Nodup
theorem look_none {l : List PI} {x : Int} : look l x = none ↔ x ∉ l.map (·.a) := by
  induction l with
  | nil => simp [look_nil]
  | cons p l ih =>
    rw [look_cons, List.map_cons, List.mem_cons]
    by_cases e : p.a = x
    · rw [if_pos e]; simp [e]
    · rw [if_neg e, ih]
      constructor
      · intro h z
        rcases z with z | z
        · exact e z.symm
        · exact h z
      · intro h z
        exact h (.inr z)
theorem look_mem {l : List PI} (h : Nd l) {p : PI} (m : p ∈ l) : look l p.a = some p.b := by
  induction l with
  | nil => cases m
  | cons q l ih =>
    have h' := List.nodup_cons.mp h
    rw [look_cons]
    rcases List.mem_cons.mp m with rfl | m
    · rw [if_pos rfl]
    · rw [if_neg (fun e => h'.1 (by show q.a ∈ _; rw [e]; exact List.mem_map.mpr ⟨p, m, rfl⟩))]
      exact ih h'.2 m
theorem mem_look {l : List PI} {x v : Int} (h : look l x = some v) : (⟨x, v⟩ : PI) ∈ l := by
  induction l with
  | nil => cases h
  | cons q l ih =>
    rw [look_cons] at h
    by_cases e : q.a = x
    · rw [if_pos e] at h
      cases h
      subst e
      exact List.mem_cons_self
    · rw [if_neg e] at h
      exact List.mem_cons_of_mem _ (ih h)
theorem nd_put {l : List PI} (h : Nd l) (x v : Int) : Nd (put l x v) := by
  unfold put
  by_cases a : (l.any fun p => decide (p.a = x)) = true
  · rw [if_pos a]
    unfold Nd
    rw [List.map_map]
    have e : ((fun p : PI => p.a) ∘ fun p : PI => if p.a = x then (⟨p.a, v⟩ : PI) else p) = fun p : PI => p.a := by
      funext p
      simp only [Function.comp]
      split <;> rfl
    rw [e]; exact h
  · rw [if_neg a]
    unfold Nd
    rw [List.map_append]
    refine nd_snoc h ?_
    rw [look_any] at a
    refine look_none.mp ?_
    cases q : look l x with
    | none => rfl
    | some z => rw [q] at a; exact absurd rfl a
theorem put_new {l : List PI} {x : Int} (v : Int) (h : look l x = none) : put l x v = l ++ [⟨x, v⟩] := by
  unfold put
  rw [look_any, h]
  rfl
theorem merge_nd {m : List PI} : ∀ {l : List PI}, Nd (l ++ m) → merge l m = l ++ m := by
  induction m with
  | nil => intro l _; simp [merge]
  | cons p m ih =>
    intro l h
    have e : l ++ p :: m = (l ++ [p]) ++ m := by simp
    have hn : look l p.a = none := by
      refine look_none.mpr fun z => ?_
      unfold Nd at h
      rw [List.map_append] at h
      exact (List.nodup_append.mp h).2.2 _ z _ (by rw [List.map_cons]; exact List.mem_cons_self) rfl
    show merge (put l p.a p.b) m = _
    rw [put_new _ hn, e]
    exact ih (by rw [← e]; exact h)
theorem nd_nil : Nd [] := List.nodup_nil
theorem put_len (l : List PI) (x v : Int) : (put l x v).length ≤ l.length + 1 := by
  unfold put
  split
  · rw [List.length_map]; omega
  · rw [List.length_append]; exact Nat.le_refl _
/-- Python's order of pairs -/
def leP (p q : PI) : Bool := decide (p.a < q.a) || (decide (p.a = q.a) && decide (p.b ≤ q.b))
theorem leP_iff {p q : PI} : leP p q = true ↔ p.a < q.a ∨ (p.a = q.a ∧ p.b ≤ q.b) := by simp [leP]
def ins (p : PI) : List PI → List PI
  | [] => [p]
  | q :: l => if leP p q = true then p :: q :: l else q :: ins p l
def srt (l : List PI) : List PI := l.foldr ins []
theorem ins_perm (p : PI) : ∀ l : List PI, (ins p l).Perm (p :: l)
  | [] => List.Perm.refl _
  | q :: l => by
    unfold ins
    split
    · exact List.Perm.refl _
    · exact (List.Perm.cons q (ins_perm p l)).trans (List.Perm.swap p q l)
theorem srt_perm : ∀ l : List PI, (srt l).Perm l
  | [] => List.Perm.refl _
  | p :: l => (ins_perm p (srt l)).trans ((srt_perm l).cons p)
abbrev LeP (p q : PI) : Prop := leP p q = true
theorem leP_trans {p q r : PI} (h1 : LeP p q) (h2 : LeP q r) : LeP p r := by
  have a := leP_iff.mp h1
  have b := leP_iff.mp h2
  exact leP_iff.mpr (by omega)
theorem leP_total (p q : PI) : LeP p q ∨ LeP q p := by
  show leP p q = true ∨ leP q p = true
  rw [leP_iff, leP_iff]
  omega
theorem ins_srt (p : PI) : ∀ {l : List PI}, l.Pairwise LeP → (ins p l).Pairwise LeP
  | [], _ => List.pairwise_singleton _ _
  | q :: l, h => by
    have h' := List.pairwise_cons.mp h
    unfold ins
    split
    · rename_i e
      refine List.pairwise_cons.mpr ⟨fun x m => ?_, h⟩
      rcases List.mem_cons.mp m with rfl | m
      · exact e
      · exact leP_trans e (h'.1 x m)
    · rename_i e
      refine List.pairwise_cons.mpr ⟨fun x m => ?_, ins_srt p h'.2⟩
      rcases List.mem_cons.mp ((ins_perm p l).mem_iff.mp m) with rfl | m
      · rcases leP_total q x with z | z
        · exact z
        · exact absurd z e
      · exact h'.1 x m
theorem srt_srt : ∀ l : List PI, (srt l).Pairwise LeP
  | [] => List.Pairwise.nil
  | p :: l => ins_srt p (srt_srt l)
theorem leP_anti {p q : PI} (h1 : LeP p q) (h2 : LeP q p) : p = q := by
  have a := leP_iff.mp h1
  have b := leP_iff.mp h2
  obtain ⟨x, y⟩ := p
  obtain ⟨x', y'⟩ := q
  have e1 : x = x' := by show x = x'; simp only at a b; omega
  have e2 : y = y' := by simp only at a b; omega
  rw [e1, e2]
/-- there is one sorted list of them -/
theorem srt_uniq : ∀ {l m : List PI}, l.Pairwise LeP → m.Pairwise LeP → l.Perm m → l = m
  | [], m, _, _, h => (List.Perm.eq_nil h.symm).symm
  | x :: l, [], _, _, h => absurd h.length_eq (by simp)
  | x :: l, y :: m, hl, hm, h => by
    have l' := List.pairwise_cons.mp hl
    have m' := List.pairwise_cons.mp hm
    have h1 : LeP y x := by
      rcases List.mem_cons.mp (h.mem_iff.mp (List.mem_cons_self (a := x) (l := l))) with e | z
      · rw [e]; rcases leP_total y y with z | z <;> exact z
      · exact m'.1 x z
    have h2 : LeP x y := by
      rcases List.mem_cons.mp (h.mem_iff.mpr (List.mem_cons_self (a := y) (l := m))) with e | z
      · rw [e]; rcases leP_total x x with z | z <;> exact z
      · exact l'.1 y z
    have e := leP_anti h2 h1
    subst e
    rw [srt_uniq l'.2 m'.2 h.cons_inv]
theorem srt_of {l m : List PI} (h : m.Pairwise LeP) (p : m.Perm l) : m = srt l := srt_uniq h (srt_srt l) (p.trans (srt_perm l).symm)
/-- what a value says as a pair, read off the heap -/
def pOf (H : Hp) : V → Int × Int
  | .ref t => match H t with
    | some (.tup [.int i, .int j]) => (i, j)
    | _ => (0, 0)
  | _ => (0, 0)
theorem pOf_is {H : Hp} {v : V} {d : PI} (h : Is H v d) : ∃ t, v = .ref t ∧ H t = some (.tup [.int (pOf H v).1, .int (pOf H v).2]) ∧ d = ⟨(pOf H v).1, (pOf H v).2⟩ := by
  obtain ⟨t, x, y, rfl, h1, h2, h3⟩ := h
  have h2 : x = .int d.a := h2
  have h3 : y = .int d.b := h3
  subst h2
  subst h3
  have e : pOf H (.ref t) = (d.a, d.b) := by simp only [pOf, h1]
  exact ⟨t, rfl, by rw [e]; exact h1, by rw [e]⟩
theorem all_of {H : Hp} : ∀ {xs : List V} {l : List PI}, IsAll H xs l → l = xs.map fun v => (⟨(pOf H v).1, (pOf H v).2⟩ : PI) := fun {xs l} h => by
  refine List.ext_getElem? fun i => ?_
  rw [List.getElem?_map]
  cases e : xs[i]? with
  | none =>
    have := List.getElem?_eq_none_iff.mp e
    exact List.getElem?_eq_none_iff.mpr (by rw [← h.1]; exact this)
  | some x =>
    obtain ⟨d, hd, hx⟩ := h.get' e
    obtain ⟨t, _, _, q⟩ := pOf_is hx
    rw [hd, q]
    rfl
/-- sorted of a list of pairs -/
theorem sort_pairs {K : PySem.W.Frag} {F H : Hp} {a : Addr} {xs : List V} {l : List PI} {Q : VK} (sF : Same F H) (hx : IsAll F xs l) (ha : SqL K H a xs) (q : ∀ ys p, H p = none → IsAll F ys (srt l) → Q (.ref p) (upd H p (.lst ys))) : rSortQ K [.ref a] H Q := by
  unfold rSortQ
  refine ⟨a, xs, pOf F, rfl, ha, fun x m => ?_, fun ys p hs hb np => q ys p np ?_⟩
  · obtain ⟨i, hi⟩ := List.getElem?_of_mem m
    obtain ⟨d, _, hd⟩ := hx.get' hi
    obtain ⟨t, e, h, _⟩ := pOf_is hd
    exact ⟨t, e, sF _ _ h⟩
  · have el := all_of hx
    have hys : IsAll F ys (ys.map fun v => (⟨(pOf F v).1, (pOf F v).2⟩ : PI)) := by
      refine ⟨by rw [List.length_map], fun i x y h1 h2 => ?_⟩
      rw [List.getElem?_map, h1] at h2
      cases h2
      have m : x ∈ xs := hb.perm.mem_iff.mp (List.mem_of_getElem? h1)
      obtain ⟨j, hj⟩ := List.getElem?_of_mem m
      obtain ⟨d, _, hd⟩ := hx.get' hj
      obtain ⟨t, e, h, e2⟩ := pOf_is hd
      exact ⟨t, _, _, e, h, rfl, rfl⟩
    have es : (ys.map fun v => (⟨(pOf F v).1, (pOf F v).2⟩ : PI)) = srt l := by
      refine srt_of ?_ ?_
      · refine List.pairwise_map.mpr (List.Pairwise.imp (fun {x y} h => ?_) hs)
        have h := SrtO.lexB_no.mp h
        exact leP_iff.mpr (by simp only; omega)
      · rw [el]
        exact hb.perm.map _
    rw [es] at hys
    exact hys
theorem pairs_of {K : PySem.W.Frag} {H : Hp} : ∀ {xs : List V} {l : List PI}, IsAll H xs l → ∃ ps : List Addr, xs = ps.map V.ref ∧ Paired (fun p kv => SqT K H p [kV kv.1, kv.2]) ps (dI l)
  | [], [], _ => ⟨[], rfl, .nil⟩
  | [], d :: l, h => by have := h.1; simp at this
  | x :: xs, [], h => by have := h.1; simp at this
  | x :: xs, d :: l, h => by
    obtain ⟨t, x1, x2, e, h1, h2, h3⟩ := h.2 0 x d rfl rfl
    have h2 : x1 = .int d.a := h2
    have h3 : x2 = .int d.b := h3
    subst h2
    subst h3
    obtain ⟨ps, e2, p⟩ := pairs_of (K := K) (xs := xs) (l := l) ⟨by have := h.1; simpa using this, fun i a b p q => h.2 (i + 1) a b (by simpa using p) (by simpa using q)⟩
    exact ⟨t :: ps, by rw [e, e2]; rfl, .cons (SqT.of h1) p⟩
/-- dict(pairs) -/
theorem dict_pairs {K : PySem.W.Frag} {H : Hp} {a : Addr} {xs : List V} {l : List PI} {Q : VK} (hx : IsAll H xs l) (ha : SqL K H a xs) (q : ∀ p, H p = none → Q (.ref p) (upd H p (.dK (dI (merge [] l))))) : rDictP K [.ref a] H Q := by
  unfold rDictP
  obtain ⟨ps, e, p⟩ := pairs_of (K := K) hx
  refine ⟨a, ps, dI l, rfl, by rw [← e]; exact ha, p, fun d nd => ?_⟩
  have e2 : mergeK [] (dI l) = dI (merge [] l) := dI_merge l []
  rw [e2]
  exact q d nd
/-! ### a dict under its lock -/
theorem lock_in {F H : Hp} {d : Addr} {o : HO} (s : Same F H) : Same (fun c => if c = d then none else F c) (upd H d o) := fun c u h => by
  by_cases e : c = d
  · simp only [e, if_true] at h; cases h
  · simp only [e, if_false] at h
    rw [upd_ne e]; exact s c u h
theorem lock_out {F H F2 H2 : Hp} {d : Addr} {o u : HO} (s : Same F H) (h : H d = some u) (g : Gr mu0 (fun c => if c = d then none else F c) (upd H d o) F2 H2) :
    H2 d = some o ∧ Same F2 (fun c => if c = d then F d else F2 c) ∧ Gr mu0 F H (fun c => if c = d then F d else F2 c) (upd H2 d u) := by
  have n2 : F2 d = none := by
    cases e : F2 d with
    | none => rfl
    | some z =>
      rcases g.nw d z e with k | k
      · simp only [if_true] at k; cases k
      · rw [upd_same] at k; cases k
  refine ⟨g.fr d o upd_same (fun z => z), fun c z e => ?_, ⟨fun c z e => ?_, fun c z e => ?_, fun c z e => ?_, fun c z e m => ?_, fun c e => ?_⟩⟩
  · by_cases k : c = d
    · rw [k, n2] at e; cases e
    · simp only [k, if_false]; exact e
  · by_cases k : c = d
    · simp only [k, if_true]; rw [← k]; exact e
    · simp only [k, if_false]
      exact g.ff c z (by simp only [k, if_false]; exact e)
  · by_cases k : c = d
    · simp only [k, if_true] at e
      rw [k, upd_same, ← h]
      exact s d z e
    · simp only [k, if_false] at e
      rw [upd_ne k]; exact g.fh c z e
  · by_cases k : c = d
    · simp only [k, if_true] at e
      exact .inl (by rw [k]; exact e)
    · simp only [k, if_false] at e
      rcases g.nw c z e with q | q
      · simp only [k, if_false] at q; exact .inl q
      · rw [upd_ne k] at q; exact .inr q
  · by_cases k : c = d
    · rw [k, upd_same]; rw [k, h] at e; exact e
    · rw [upd_ne k]
      exact g.fr c z (by rw [upd_ne k]; exact e) (fun z => z)
  · by_cases k : c = d
    · rw [k, upd_same] at e; cases e
    · rw [upd_ne k] at e
      have q := g.th c e
      rw [upd_ne k] at q; exact q
/-- the signs that aren't 0, in order -/
def nz (p : PI) : Bool := decide (p.b ≠ 0)
def told (l : List PI) : List PI := srt (l.filter nz)
theorem dI_get {l : List PI} {i : Nat} (h : i < l.length) : (dI l)[i]? = some (Sum.inl l[i].a, V.int l[i].b) := by
  unfold dI
  rw [List.getElem?_map, List.getElem?_eq_getElem h]
  rfl
theorem filter_take_succ {l : List PI} {f : PI → Bool} {i : Nat} (h : i < l.length) : (l.take (i + 1)).filter f = (l.take i).filter f ++ (if f l[i] = true then [l[i]] else []) := by
  rw [List.take_add_one, List.getElem?_eq_getElem h, List.filter_append]
  show _ ++ List.filter f [l[i]] = _
  rw [List.filter_cons]
  split <;> rfl
theorem nd_srt {l : List PI} (h : Nd l) : Nd (srt l) := ((srt_perm l).map (fun p : PI => p.a)).nodup_iff.mpr h
theorem mem_srt {l : List PI} {q : PI} : q ∈ srt l ↔ q ∈ l := (srt_perm l).mem_iff
theorem mem_put {l : List PI} {x v : Int} {q : PI} (m : q ∈ put l x v) : q ∈ l ∨ q = ⟨x, v⟩ := by
  unfold put at m
  split at m
  · obtain ⟨z, hz, e⟩ := List.mem_map.mp m
    split at e
    · rename_i h1 h2
      exact .inr (by rw [← e, h2])
    · exact .inl (by rw [← e]; exact hz)
  · rcases List.mem_append.mp m with m | m
    · exact .inl m
    · exact .inr (List.mem_singleton.mp m)
/-! ### sorted(d.items()), d a dict of ints to ints -/
section
open PySem.Spec PyProof.Rows
variable {X : Cx}
/-- many new things are tracked at once -/
theorem inv_many {pins : List (Addr × Obj)} {σ : L2.St} {H H' : Hp} {s : Shared} {h' : Heap} {tk : Nat} {as : List Addr} (I : Inv X pins σ H s) (k : ∀ b o, s.heap.get? b = some o → h'.get? b = some o) (hp : ∀ a ∈ as, s.heap.objs.size ≤ a)
    (p1 : ∀ b, b ∉ as → H' b = H b) (p2 : ∀ b ∈ as, ∀ o, H' b = some o → ObjOk X.prog X.w H' h' b o) : Inv X pins σ H' { s with heap := h', toks := tk } := by
  have old : ∀ b o, s.heap.get? b = some o → b ∉ as := fun b o e z => Nat.lt_irrefl _ (Nat.lt_of_lt_of_le (Heap.lt_size e) (hp b z))
  have trc : ∀ b o, H b = some o → b ∉ as := fun b o e z => by
    have := I.hok.lt e
    exact Nat.lt_irrefl _ (Nat.lt_of_lt_of_le this (hp b z))
  have kp : ∀ b o, H b = some o → H' b = some o := fun b o e => by rw [p1 b (trc b o e)]; exact e
  refine I.un ⟨fun b o q _ _ _ => k b o q, fun b o q _ _ _ => ⟨o.slots, k b o q⟩, fun b o q n _ => by rw [p1 b (old b o q)]; exact n, fun b o q _ => ⟨o, k b o q⟩, fun b xs e => kp b _ e, fun b o u e => kp b _ e, fun b ps e => ⟨#[], by rw [kp b _ e]; simp⟩⟩ fun b o e => ?_
  by_cases m : b ∈ as
  · exact p2 b m o e
  · rw [p1 b m] at e
    exact (I.hok b o e).stay (fun c u _ q => k c u q) (fun c q => kp c _ q) fun c xs q => kp c _ q
/-- the pair that stands at a -/
def pzAt (zs : List (Addr × PI)) (a : Addr) : Option PI := (zs.find? fun z => decide (z.1 = a)).map (·.2)
theorem pzAt_ix : ∀ {zs : List (Addr × PI)}, (zs.map (·.1)).Nodup → ∀ {j : Nat} {z : Addr × PI}, zs[j]? = some z → pzAt zs z.1 = some z.2
  | [], _, j, z, h => by cases h
  | y :: ys, nd, 0, z, h => by
    have e := Option.some.inj h
    subst e
    simp [pzAt]
  | y :: ys, nd, j + 1, z, h => by
    have nd' := List.nodup_cons.mp nd
    have m : z.1 ∈ ys.map (·.1) := List.mem_map.mpr ⟨z, List.mem_of_getElem? (show ys[j]? = some z from h), rfl⟩
    have ih := pzAt_ix nd'.2 (show ys[j]? = some z from h)
    have ne : ¬ y.1 = z.1 := fun e => nd'.1 (by show y.1 ∈ _; rw [e]; exact m)
    unfold pzAt at ih ⊢
    rw [List.find?_cons, decide_eq_false ne]
    exact ih
theorem pzAt_no {zs : List (Addr × PI)} {a : Addr} (h : a ∉ zs.map (·.1)) : pzAt zs a = none := by
  unfold pzAt
  rw [List.find?_eq_none.mpr fun z m e => h (List.mem_map.mpr ⟨z, m, of_decide_eq_true e⟩)]
  rfl
def trk (H : Hp) (B : Addr) (L : HO) (zs : List (Addr × PI)) : Hp := fun b => if b = B then some L else match pzAt zs b with
  | some q => some (.tup [.int q.a, .int q.b])
  | none => H b
def adOf : Value → Addr
  | .ref a => a
  | _ => 0
@[irreducible] def rSortIt : V → Hp → VK → Prop := fun x H Q => ∃ (d : Addr) (l : List PI), x = .ref d ∧ H d = some (.dK (dI l)) ∧
  ∀ (H' : Hp) (p : Addr) (ys : List Addr), Same H H' → H p = none → (∀ t ∈ ys, H t = none) → p ∉ ys → (∀ b, b ≠ p → b ∉ ys → H' b = H b) → H' p = some (.lst (ys.map V.ref)) → All2 (fun t (q : PI) => H' t = some (.tup [.int q.a, .int q.b])) ys (srt l) → Q (.ref p) H'
def tSortIt (te : TE) : TE := fun σ H Q => te σ H fun x H1 => rSortIt x H1 Q
theorem pe_sortedItems {e : Expr} {te : TE} {p apos cpos pos : Pos} (hc : X.calm = true) (he : PE X e te) (hg : Gl X "sorted") (hm : X.mg "sorted" = none) (hv : bootBuiltins "sorted" = some (.builtin "sorted")) (hbase : attributeBase e "items" X.env (eval e X.env) = eval e X.env := by rfl) (hline : (apos.endLine == cpos.line) = true := by rfl)
    (hs : starEach [.Call (.Attribute e "items" apos) [] [] cpos] X.env = (false, eval (.Call (.Attribute e "items" apos) [] [] cpos) X.env) :: starEach [] X.env := by rfl) :
    PE X (.Call (.Name "sorted" p) [.Call (.Attribute e "items" apos) [] [] cpos] [] pos) (tSortIt te) := by
  refine ⟨fun pins s σ H Q I hq => ?_⟩
  refine wpAny_Call_Name_kw (ld_blt I hg hm hv ?_)
  refine PyProof.Rows.callWith_builtin1 ?_ hs rfl
  rw [hs]
  show wpAny _ _ (spliced ((false, eval (.Call (.Attribute e "items" apos) [] [] cpos) X.env) :: backTo pos (starEach [] X.env))) _ _ s
  refine Calls.spliced_cons ?_
  refine wpAny_Call_method (T := "dict") (id := "dict.items") hbase rfl hline F.plainAttrs_dict F.slot_dict_items F.type_dict_items (thn (he.run pins s σ H _ I hq) fun u s1 ⟨x, H1, I1, rx, q⟩ => ?_)
  unfold rSortIt at q
  obtain ⟨d, l, rfl, hd, q⟩ := q
  obtain rfl : u = Value.ref d := rx
  obtain ⟨hz, hs0, vs, kv, hdo⟩ := I1.hok d _ hd
  obtain ⟨ep, hat⟩ := hdo.dictAt
  have lk : (dI l).length = vs.length := Paired.length kv
  have ll : (dI l).length = l.length := by unfold dI; rw [List.length_map]
  refine ⟨hdo.typeIs, hdo.mapOf.noDict, ?_⟩
  show wpAny _ _ (callWith cpos (.builtin "dict.items") [.ref d] [] []) _ X.xe s1
  refine method_meetsIn F.slot_dict_items F.entry_dict_items rfl (PySem.evalArgs_none ⟨rfl, hdo.typeIs, F.args_dict_items_1 _, _, meets_dict_items (mixKind X.prog X.w) d hs0, ⟨vs, hdo⟩, ?_⟩)
  refine Calls.spliced_nil ?_
  have I2 : Inv X pins σ H1 { s1 with heap := s1.heap.push { cls := .type "dict_items", data := .fields #[.ref d] } } := I1.kept (t' := s1.toks) fun b ob q => Heap.get?_push_of_some _ q
  have hB : ((H1 d).isSome) = true := by rw [hd]; rfl
  refine Calls.call_function_entry kind_sorted plain_sorted entry_sorted (args_sorted1 _) (by
    unfold Builtin.«sorted»
    refine wpAny_bind (m := checkCount "sorted" 1 1 _) (wpAny_pure (wpAny_bind (PySem.W.kdx_collect (knd := mixKind X.prog X.w) (kvs := vs) (ep := ep) (I1.ok.hd hc) ⟨_, Heap.get?_push_size _ rfl, rfl, rfl⟩ (hat.push _) (by omega) fun h1 tk as hk hl hG => ?_)))
    refine wpAny_bind (wpAny_newList ?_ (by rw [List.length_map, hl]; omega))
    -- the pairs' tuples: at as
    have nd : as.Nodup := hG.rise.imp fun {a b} h => Nat.ne_of_lt h
    have lz : (as.zip l).map (·.1) = as := List.map_fst_zip (by omega)
    have zx : ∀ (j : Nat) (a : Addr), as[j]? = some a → ∃ (q : PI) (t u : Tok), l[j]? = some q ∧ pzAt (as.zip l) a = some q ∧ h1.get? a = some { cls := .type "tuple", data := .seq #[.int q.a t, .int q.b u] } := fun j a h => by
      obtain ⟨key, k, x, e1, e2, e3⟩ := hG.pairs j a h
      have jl : j < l.length := by have := (List.getElem?_eq_some_iff.mp h).1; omega
      have lj : l[j]? = some l[j] := List.getElem?_eq_getElem jl
      obtain ⟨y, e4, e5, e6⟩ := LiI.paired_get kv (dI_get jl)
      rw [e1] at e4
      have e4 := Option.some.inj e4
      subst e4
      obtain ⟨i, tk1, e7, rfl⟩ | ⟨z, tk1, e7, _⟩ := keyIs_shape (show keyIs k key = true from e2)
      · have e5 : Sum.inl l[j].a = k := e5
        rw [e7] at e5
        have e5 := Sum.inl.inj e5
        subst e5
        obtain ⟨tk2, e6⟩ := (show RelV (.int l[j].b) x from e6)
        subst e6
        exact ⟨l[j], tk1, tk2, lj, pzAt_ix (zs := as.zip l) (by rw [lz]; exact nd) (j := j) (z := (a, l[j])) (List.getElem?_zip_eq_some.mpr ⟨h, lj⟩), e3⟩
      · have e5 : Sum.inl l[j].a = k := e5
        rw [e7] at e5
        cases e5
    have zm : ∀ a ∈ as, ∃ (q : PI) (t u : Tok), pzAt (as.zip l) a = some q ∧ h1.get? a = some { cls := .type "tuple", data := .seq #[.int q.a t, .int q.b u] } := fun a m => by
      obtain ⟨j, hj⟩ := List.getElem?_of_mem m
      obtain ⟨q, t, u, _, h2, h3⟩ := zx j a hj
      exact ⟨q, t, u, h2, h3⟩
    have lm : as.map (fun a => (pzAt (as.zip l) a).getD ⟨0, 0⟩) = l := by
      refine List.ext_getElem? fun j => ?_
      rw [List.getElem?_map]
      cases hj : as[j]? with
      | none =>
        have := List.getElem?_eq_none_iff.mp hj
        exact (List.getElem?_eq_none_iff.mpr (by omega)).symm
      | some a =>
        obtain ⟨q, t, u, h1, h2, _⟩ := zx j a hj
        rw [h1, Option.map_some, h2]; rfl
    generalize ezs : as.zip l = zs at zx zm lm lz
    have s12 : (s1.heap.push { cls := .type "dict_items", data := .fields #[.ref d] }).objs.size ≤ h1.objs.size := by
      have := Heap.lt_size (hk _ _ (Heap.get?_push_size s1.heap rfl))
      rw [Heap.size_push]; exact this
    have Bn : h1.objs.size ∉ as := fun z => Nat.lt_irrefl _ (hG.there z)
    let kk : Value → Int × Int := fun v => (((pzAt zs (adOf v)).getD ⟨0, 0⟩).a, ((pzAt zs (adOf v)).getD ⟨0, 0⟩).b)
    have ho : (h1.push { cls := .type "list", data := .seq (as.map Value.ref).toArray }).get? h1.objs.size = some (seqObj "list" (as.map Value.ref).toArray 0) := Heap.get?_push_size _ rfl
    refine wpAny_bind (wpAny_holding (wpAny_call_entry slot_list_sort ⟨_, ho, rfl⟩ entry_list_sort (SrtO.list_sort_ord (ltv := fun v u => SrtO.lexB (kk v) (kk u)) (SrtO.swo_lex kk) ho (by rw [List.length_map, hl]; omega) (fun h2 => ?_) fun out hso hbo => ⟨_, rfl, wpAny_pure ⟨_, rfl, ?_⟩⟩) (args_list_sort _)))
    · refine SrtO.pairs_sortableO (k := kk) (by omega) (fun v m => ?_) fun o e => ?_
      · obtain ⟨a, ma, rfl⟩ := List.mem_map.mp m
        obtain ⟨q, t, u, h1', h2'⟩ := zm a ma
        refine ⟨a, _, t, u, 0, rfl, Heap.get?_push_of_some _ h2', rfl, ?_⟩
        show _ = Data.seq #[.int ((pzAt zs a).getD ⟨0, 0⟩).a t, .int ((pzAt zs a).getD ⟨0, 0⟩).b u] 0
        rw [h1']
        rfl
      · rw [ho] at e
        cases e
        intro c
        exact absurd (Value.type.inj c) (by decide)
    · have outp : out.Perm (as.map Value.ref) := hbo.perm
      have oe : out = (out.map adOf).map Value.ref := by
        rw [List.map_map]
        refine (List.map_id out).symm.trans (List.map_congr_left fun v m => ?_)
        obtain ⟨a, _, rfl⟩ := List.mem_map.mp (outp.mem_iff.mp m)
        rfl
      have yp : (out.map adOf).Perm as := by
        have := outp.map adOf
        rw [List.map_map] at this
        have e : as.map (adOf ∘ Value.ref) = as := (List.map_congr_left fun a _ => rfl).trans (List.map_id as)
        rw [e] at this; exact this
      generalize out.map adOf = ys at oe yp
      have lo : out.length ≤ sizeLine := by rw [oe, List.length_map, yp.length_eq, hl]; omega
      obtain ⟨ep3, h3B⟩ := sortedHeap_at (vs := as.map Value.ref) (out := out.toArray) ho
      have h3o : ∀ b o, h1.get? b = some o → (sortedHeap (h1.push { cls := .type "list", data := .seq (as.map Value.ref).toArray }) h1.objs.size (as.map Value.ref) out.toArray).get? b = some o := fun b o e => by
        have bl := Heap.lt_size e
        rw [sortedHeap_old (Nat.ne_of_lt bl) (by rw [Heap.size_push]; exact Nat.lt_succ_of_lt bl)]
        exact Heap.get?_push_of_some _ e
      have tB : trk H1 h1.objs.size (.lst (ys.map V.ref)) zs h1.objs.size = some (.lst (ys.map V.ref)) := by unfold trk; rw [if_pos rfl]
      have tT : ∀ a ∈ as, ∀ q, pzAt zs a = some q → trk H1 h1.objs.size (.lst (ys.map V.ref)) zs a = some (.tup [.int q.a, .int q.b]) := fun a m q e => by
        unfold trk
        rw [if_neg (fun z => Bn (by rw [← z]; exact m)), e]
      have tO : ∀ b, b ≠ h1.objs.size → b ∉ as → trk H1 h1.objs.size (.lst (ys.map V.ref)) zs b = H1 b := fun b n m => by
        unfold trk
        rw [if_neg n, pzAt_no (by rw [lz]; exact m)]
      have big : ∀ a ∈ h1.objs.size :: as, (s1.heap.push { cls := .type "dict_items", data := .fields #[.ref d] }).objs.size ≤ a := fun a m => by
        rcases List.mem_cons.mp m with rfl | m
        · exact s12
        · exact Nat.le_of_lt (hG.above a m)
      have J := inv_many (tk := tk) (H' := trk H1 h1.objs.size (.lst (ys.map V.ref)) zs) (h' := sortedHeap (h1.push { cls := .type "list", data := .seq (as.map Value.ref).toArray }) h1.objs.size (as.map Value.ref) out.toArray) (as := h1.objs.size :: as) I2 (fun b o e => h3o b o (hk b o e)) big
          (fun b m => tO b (fun z => m (by rw [z]; exact List.mem_cons_self)) (fun z => m (List.mem_cons_of_mem _ z))) (fun b m o e => by
        by_cases hb : b = h1.objs.size
        · subst hb
          rw [tB] at e
          cases e
          refine ⟨by rw [List.length_map, yp.length_eq, hl]; omega, out, ep3, ?_, h3B⟩
          rw [oe]
          exact LiI.vals_refs ys
        · have m := (List.mem_cons.mp m).resolve_left hb
          obtain ⟨q, t, u, e1, e2⟩ := zm b m
          rw [tT b m q e1] at e
          cases e
          exact ⟨two_le, [.int q.a t, .int q.b u], .cons ⟨_, rfl⟩ (.cons ⟨_, rfl⟩ .nil), ⟨_, h3o b _ e2, rfl, _, rfl⟩⟩)
      have fr1 : ∀ a ∈ h1.objs.size :: as, H1 a = none := fun a m => I2.hok.fresh (big a m)
      have ym : ∀ a, a ∈ ys ↔ a ∈ as := fun a => yp.mem_iff
      refine ⟨.ref h1.objs.size, _, J, rfl, q _ _ ys (fun b o e => ?_) (fr1 _ List.mem_cons_self) (fun t m => fr1 t (List.mem_cons_of_mem _ ((ym t).mp m))) (fun z => Bn ((ym _).mp z)) (fun b n m => tO b n fun z => m ((ym b).mpr z)) tB ?_⟩
      · rw [tO b (fun z => by rw [z, fr1 _ List.mem_cons_self] at e; cases e) (fun z => by rw [fr1 b (List.mem_cons_of_mem _ z)] at e; cases e)]
        exact e
      · have es : ys.map (fun a => (pzAt zs a).getD ⟨0, 0⟩) = srt l := by
          refine srt_of ?_ (by rw [← lm]; exact yp.map _)
          rw [oe] at hso
          have hso := List.pairwise_map.mp hso
          refine List.pairwise_map.mpr (hso.imp fun {x y} h => ?_)
          have h := SrtO.lexB_no.mp h
          exact leP_iff.mpr (by simp only [kk, adOf] at h; omega)
        rw [← es]
        refine ⟨by rw [List.length_map], fun i x y h1 h2 => ?_⟩
        rw [List.getElem?_map, h1] at h2
        cases h2
        have m := (ym x).mp (List.mem_of_getElem? h1)
        obtain ⟨q, t, u, e1, e2⟩ := zm x m
        rw [tT x m q e1]
        show _ = some (HO.tup [V.int ((pzAt zs x).getD ⟨0, 0⟩).a, V.int ((pzAt zs x).getD ⟨0, 0⟩).b])
        rw [e1]
        rfl)
theorem sitems {F H : Hp} {d : Addr} {l : List PI} {Q : VK} (sF : Same F H) (hd : H d = some (.dK (dI l))) (q : ∀ (F' H' : Hp) (p : Addr) (xs : List V), Gr mu0 F H F' H' → Ow H F' H' p (.lst xs) → IsAll F' xs (srt l) → Q (.ref p) H') : rSortIt (.ref d) H Q := by
  unfold rSortIt
  refine ⟨d, l, rfl, hd, fun H' p ys s n nt pn off hp al => ?_⟩
  have fy : ∀ b ∈ ys, F b = none := fun b m => sF.free (nt b m)
  have s' : Same F (fun b => if b ∈ ys then H' b else F b) := fun b o e => by
    by_cases m : b ∈ ys
    · rw [fy b m] at e; cases e
    · simp only [m, if_false]; exact e
  have e2 : ∀ b, b ∈ ys → (if b ∈ ys then H' b else F b) = H' b := fun b m => if_pos m
  refine q (fun b => if b ∈ ys then H' b else F b) H' p (ys.map V.ref) ⟨s', fun b o e => ?_, fun b o e => ?_, fun b o e _ => s b o e, fun b e => s.free e⟩ ⟨n, ?_, hp⟩ ⟨by rw [List.length_map]; exact al.1, fun i x y h1 h2 => ?_⟩
  · by_cases m : b ∈ ys
    · simp only [m, if_true] at e; exact e
    · simp only [m, if_false] at e; exact s b o (sF b o e)
  · by_cases m : b ∈ ys
    · exact .inr (nt b m)
    · simp only [m, if_false] at e; exact .inl e
  · show (if p ∈ ys then H' p else F p) = none
    rw [if_neg pn]; exact sF.free n
  · rw [List.getElem?_map] at h1
    cases e : ys[i]? with
    | none => rw [e] at h1; cases h1
    | some t =>
      rw [e] at h1
      cases h1
      refine ⟨t, _, _, rfl, ?_, rfl, rfl⟩
      show (if t ∈ ys then H' t else F t) = _
      rw [if_pos (List.mem_of_getElem? e)]
      exact al.2 i t y e h2
end
/-! ### sum of a tuple; a tuple not at all or once -/
section
open PySem.Spec PyProof.Rows
variable {X : Cx}
def rSumT (K : PySem.W.Frag) : List V → Hp → VK → Prop := fun vs H Q => ∃ (a : Addr) (ns : List Int), vs = [V.ref a] ∧ SqT K H a (ns.map V.int) ∧ Q (.int ns.sum) H
theorem cr_sumT (hc : X.calm = true) : CallR X (.builtin "sum") (rSumT X.K) := by
  intro pins s σ H vs us Q I r h
  obtain ⟨a, ns, rfl, ht, q⟩ := h
  obtain ⟨its, rv, ⟨o, ho, hcl, n, hd⟩, _⟩ := I.tuple ht
  have hi := rv.ints
  obtain ⟨xs, e⟩ := hi.allInts.items
  have hn : numsOf (intItems xs).toList = ns := by rw [← e]; exact hi.numsOf
  rw [nums_intItems] at hn
  rw [e] at hd
  rw [Vals.ref1 r]
  refine PySem.W.ktm_sumG (I.ok.hd hc) ⟨o, ho, hcl, n, hd⟩ fun h' tk t' hk => ?_
  rw [preSum_eq, List.take_of_length_le (by simp), hn]
  exact ⟨.int _, H, I.kept hk, ⟨_, rfl⟩, q⟩
theorem tup_mul1 (l : Addr) (items : Array Value) (n : Nat) (dd : Option Addr) (sl : Array (Option Value)) (u : Tok) (hne : items.isEmpty = false) :
    Meets (Builtin.«tuple.__mul__» ⟨[.ref l, .int 1 u], []⟩) (fun _ R s => s.heap.get? l = some { cls := .type "tuple", dict := dd, data := .seq items n, slots := sl } ∧ R (.ok (.ret (Value.ref l))) s) :=
  .of_wp fun prog w A R s h => by
    obtain ⟨hp, g, d, tk, os⟩ := s
    obtain ⟨hl, h⟩ := h
    have f1 := AutoSeq1.idx_int
    wp_walk using wpAny_loadPart' hl
    exact ⟨_, rfl, h⟩
theorem tup_mul0 (l : Addr) (items : Array Value) (n : Nat) (dd : Option Addr) (sl : Array (Option Value)) (u : Tok) (hne : items.isEmpty = false) :
    Meets (Builtin.«tuple.__mul__» ⟨[.ref l, .int 0 u], []⟩) (fun _ R s => s.heap.get? l = some { cls := .type "tuple", dict := dd, data := .seq items n, slots := sl } ∧
      R (.ok (.ret (Value.ref s.heap.objs.size))) { s with heap := s.heap.push { cls := Value.type "tuple", data := Data.seq #[] }, toks := s.toks }) :=
  .of_wp fun prog w A R s h => by
    obtain ⟨hp, g, d, tk, os⟩ := s
    obtain ⟨hl, h⟩ := h
    have f1 := AutoSeq1.idx_int
    wp_walk using wpAny_loadPart' hl
    exact ⟨_, rfl, h⟩
def rRep01 (K : PySem.W.Frag) : R2 := fun x y H Q => ∃ l k xs, x = .ref l ∧ y = .int k ∧ SqT K H l xs ∧ xs ≠ [] ∧ ((k = 1 ∧ Q (.ref l) H) ∨ (k = 0 ∧ ∀ p, H p = none → Q (.ref p) (upd H p (.tup []))))
theorem op_rep01 : OpR X (binaryOp .Mult) (rRep01 X.K) := by
  intro pins s σ H x y v u Q I rx ry h
  obtain ⟨l, k, xs, rfl, rfl, hT, hne, h⟩ := h
  cases rx
  obtain ⟨tk, rfl⟩ := ry
  obtain ⟨its, r, ⟨⟨cls, dd, data, sl⟩, ho, hc, n, hd⟩, hs⟩ := I.tuple hT
  simp only at hc hd
  subst hc hd
  have hi : its.toArray.isEmpty = false := by
    cases its with
    | nil => have := r.length; exact absurd (List.eq_nil_of_length_eq_zero this) hne
    | cons a b => rfl
  rcases h with ⟨rfl, q⟩ | ⟨rfl, q⟩
  · refine wpAny_binaryOp_repeat_ref (T := "tuple") (U := "int") (by decide) ⟨_, ho, rfl⟩ (fun s' => typeIs_int s' 1 tk) noFill_tuple_mul F.fills_int_mul F.slot_int_rmul repeat_tuple F.slot_int_index.lookup
      (call_meets F.slot_int_rmul (typeIs_int s 1 tk) F.entry_int_rmul (F.args_int_rmul_2 _ _) (int_rmul_tuple 1 tk l its.toArray n dd sl)
        ⟨ho, rfl, ⟨_, ho, rfl⟩, call_meets F.slot_tuple_mul ⟨_, ho, rfl⟩ F.entry_tuple_mul (F.args_tuple_mul_2 _ _) (tup_mul1 l its.toArray n dd sl tk hi) ⟨ho, ?_⟩⟩)
    exact ⟨.ref l, H, I, rfl, q⟩
  · refine wpAny_binaryOp_repeat_ref (T := "tuple") (U := "int") (by decide) ⟨_, ho, rfl⟩ (fun s' => typeIs_int s' 0 tk) noFill_tuple_mul F.fills_int_mul F.slot_int_rmul repeat_tuple F.slot_int_index.lookup
      (call_meets F.slot_int_rmul (typeIs_int s 0 tk) F.entry_int_rmul (F.args_int_rmul_2 _ _) (int_rmul_tuple 0 tk l its.toArray n dd sl)
        ⟨ho, rfl, ⟨_, ho, rfl⟩, call_meets F.slot_tuple_mul ⟨_, ho, rfl⟩ F.entry_tuple_mul (F.args_tuple_mul_2 _ _) (tup_mul0 l its.toArray n dd sl tk hi) ⟨ho, ?_⟩⟩)
    refine ⟨.ref s.heap.objs.size, _, I.laid (t' := s.toks) (o := .tup []) (fun b ob q => Heap.get?_push_of_some _ q) (Nat.le_refl _) ?_, rfl, q _ (I.hok.fresh (Nat.le_refl _))⟩
    exact ⟨nil_le, _, .nil, IsTup.new _ _⟩
end
/-! slices of tuples, +: the ways -/
@[irreducible] def rSlQ (K : PySem.W.Frag) : V → Option Int → Option Int → Hp → VK → Prop := rSlA K
theorem sl_tupQ {X : Cx} : SlR X (rSlQ X.K) := by
  unfold rSlQ
  exact sl_tupA
@[irreducible] def rCatQ (K : PySem.W.Frag) : R2 := rCatA K
theorem op_catQ {X : Cx} : OpR X (binaryOp .Add) (rCatQ X.K) := by
  unfold rCatQ
  exact op_catA
theorem slA_all {K : PySem.W.Frag} {H : Hp} {a : Addr} {xs : List V} {lo hi : Option Int} {Q : VK} (h : SqT K H a xs) (w : HT.sIx xs.length 0 lo = 0 ∧ HT.sIx xs.length xs.length hi = xs.length) (q : Q (.ref a) H) : rSlQ K (.ref a) lo hi H Q := by
  unfold rSlQ
  exact ⟨a, xs, rfl, h, fun _ => q, fun n => absurd w n⟩
theorem slA_cut {K : PySem.W.Frag} {H : Hp} {a : Addr} {xs : List V} {lo hi : Option Int} {Q : VK} (h : SqT K H a xs) (w : ¬ (HT.sIx xs.length 0 lo = 0 ∧ HT.sIx xs.length xs.length hi = xs.length)) (q : ∀ p, H p = none → Q (.ref p) (upd H p (.tup (cutV xs lo hi)))) : rSlQ K (.ref a) lo hi H Q := by
  unfold rSlQ
  exact ⟨a, xs, rfl, h, fun n => absurd n w, fun _ => q⟩
theorem catA_nil {K : PySem.W.Frag} {H : Hp} {a b : Addr} {ys : List V} {Q : VK} (h : SqT K H a []) (h2 : SqT K H b ys) (l : ys.length ≤ sizeLine) (q : Q (.ref b) H) : rCatQ K (.ref a) (.ref b) H Q := by
  unfold rCatQ
  exact ⟨a, b, [], ys, rfl, rfl, h, h2, by simpa using l, fun _ => q, fun n => absurd rfl n, fun n => absurd rfl n⟩
theorem catA_new {K : PySem.W.Frag} {H : Hp} {a b : Addr} {xs ys : List V} {Q : VK} (h : SqT K H a xs) (h2 : SqT K H b ys) (l : xs.length + ys.length ≤ sizeLine) (n1 : xs ≠ []) (n2 : ys ≠ []) (q : ∀ p, H p = none → Q (.ref p) (upd H p (.tup (xs ++ ys)))) : rCatQ K (.ref a) (.ref b) H Q := by
  unfold rCatQ
  exact ⟨a, b, xs, ys, rfl, rfl, h, h2, l, fun e => absurd e n1, fun _ e => absurd e n2, fun _ _ => q⟩
/-! ### enumerate(tuple); sorted(dict) of int keys, of any length -/
section
open PySem.Spec PyProof.Rows
set_option maxHeartbeats 8000000 in
theorem enT_new (t : Addr) (zs : Array Value) : Meets (Builtin.«enumerate.__new__» ⟨[.type "enumerate", .ref t], []⟩) (fun _ R s => s.heap.IsTuple t zs ∧
    R (.ok (.ret (.ref (s.heap.push { cls := .type "tuple_iterator", data := .fields #[.ref t, .int 0 0] }).objs.size)))
      { s with heap := (s.heap.push { cls := .type "tuple_iterator", data := .fields #[.ref t, .int 0 0] }).push { cls := .type "enumerate", data := .fields #[.none, .bool false, .ref s.heap.objs.size, rawInt 0, .none, .none] } }) :=
  .of_wp fun prog w A R s z => by
    obtain ⟨hp, gs, dr, tk, os⟩ := s
    obtain ⟨hz, z⟩ := z
    have sub := sub_enumerate
    have step : ∀ {A' : Around} {E : Value → Shared → Prop} {Q : Value → Shared → Prop}, Q (.ref hp.objs.size) ⟨hp.push { cls := .type "tuple_iterator", data := .fields #[.ref t, .int 0 0] }, gs, dr, tk, os⟩ → wpAny (model prog w) A' (pyIter (.ref t)) Q E ⟨hp, gs, dr, tk, os⟩ :=
      fun q => (begins_tuple t zs).iter prog w _ _ ⟨hp, gs, dr, tk, os⟩ _ hz q
    wp_walk using step
    refine wpAny_stack_any fun st => wpAny_pure ?_
    split
    · rename_i c _ _ _ _ _
      cases (c == Value.type "enumerate")
      · wp_walk using step
        exact ⟨_, rfl, z⟩
      · wp_walk using step
        exact ⟨_, rfl, z⟩
    · wp_walk using step
      exact ⟨_, rfl, z⟩
section
variable {prog : Program} {w : World} {A : Around} {E : Value → Shared → Prop} {s : Shared}
theorem enT_call {t : Addr} {zs : Array Value} {Q : Value → Shared → Prop} (ht : s.heap.IsTuple t zs)
    (k : ∀ h', IsEnum h' (s.heap.objs.size + 1) s.heap.objs.size 0 .none → h'.IsTupleIter s.heap.objs.size t 0 → h'.objs.size = s.heap.objs.size + 2 →
      (∀ b o, s.heap.get? b = some o → h'.get? b = some o) → Q (.ref (s.heap.objs.size + 1)) { s with heap := h' }) :
    wpAny (model prog w) A (call (.type "enumerate") [.ref t]) Q E s := by
  refine callType_new F.called_enumerate (by decide) (F.typeCall_enumerate_1 _) (F.newCall_enumerate_1 _) (fun obj => F.args_object_init_2 obj _) F.entry_enumerate_new (enT_new t zs) ⟨ht, ?_⟩
  have ez : (s.heap.push { cls := .type "tuple_iterator", data := .fields #[.ref t, .int 0 0] }).objs.size = s.heap.objs.size + 1 := Heap.size_push ..
  show _ ∧ _
  rw [ez]
  have en : IsEnum ((s.heap.push { cls := .type "tuple_iterator", data := .fields #[.ref t, .int 0 0] }).push { cls := .type "enumerate", data := .fields #[.none, .bool false, .ref s.heap.objs.size, rawInt 0, .none, .none] })
      (s.heap.objs.size + 1) s.heap.objs.size 0 .none := by
    have y := Heap.get?_push_size (s.heap.push { cls := .type "tuple_iterator", data := .fields #[.ref t, .int 0 0] }) (o := { cls := .type "enumerate", data := .fields #[.none, .bool false, .ref s.heap.objs.size, rawInt 0, .none, .none] }) rfl
    rw [ez] at y; exact y
  exact ⟨⟨_, en, rfl⟩, k _ en ⟨_, Heap.get?_push_of_some _ (Heap.get?_push_size _ rfl), rfl, rfl⟩ (by rw [Heap.size_push, ez]) fun b o x => Heap.get?_push_of_some _ (Heap.get?_push_of_some _ x)⟩
theorem enT_end {e it t : Addr} {i : Nat} {zs : Array Value} {old : Value} {Q : Option Value → Shared → Prop} (hh : A.handled = none) (he : IsEnum s.heap e it i old) (hit : s.heap.IsTupleIter it t i) (ht : s.heap.IsTuple t zs) (hx : zs.size ≤ i)
    (k : ∀ h', Heap.ExtBut it s.heap h' → Q none { s with heap := h' }) : wpAny (model prog w) A (pyNext (.ref e)) Q E s := by
  have hT : s.TypeIs (.ref e) "enumerate" := ⟨_, he, rfl⟩
  unfold pyNext
  refine wpAny_bind (wpAny_attempt (wpAny_callSpecial?_slot (name := Str.ofString "__next__") hT F.slot_enumerate_next (wpAny_call_entry F.slot_enumerate_next hT F.entry_enumerate_next ?_ (F.args_enumerate_next_1 _))))
  show wpAny _ _ (field (.ref e) 2 >>= _) _ _ _
  refine wpAny_bind (wpAny_field he rfl (x := .ref it) rfl (wpAny_bind (wpAny_nextOf_tuple_end (show A.in1.handled = none from hh) hit ht (Array.getElem?_eq_none hx) fun h' x eb hx' => ?_)))
  obtain ⟨o, ho, hc⟩ := hx'
  exact wpAny_bind (wpAny_isInstance (T := "StopIteration") (b := true) ⟨o, ho, hc⟩ isSubtype_stop (wpAny_pure (k _ eb)))
end
/-- the tuple at a, each item in a new pair with its place -/
def Iet (K : PySem.W.Frag) (a : Addr) : It :=
  ⟨fun i H => ∃ (xs : List V) (x : V), SqT K H a xs ∧ xs[i]? = some x, fun i H v H' => ∃ T x, v = .ref T ∧ H T = none ∧ H' = upd H T (.tup [.int (i : Nat), x]) ∧ ∀ xs, SqT K H a xs → xs[i]? = some x, fun i H => ∃ xs : List V, SqT K H a xs ∧ xs.length ≤ i⟩
theorem turn_enT {P : Program} {w : World} {K : PySem.W.Frag} {elts : List PySem.Expr} {kk : Nat} {tpos : Pos} (a e it : Addr) (ae : a ≠ e) (ai : a ≠ it) :
    Turn P w K (.Tuple elts kk tpos) (Iet K a) [e, it] e (fun i h => (∃ old, IsEnum h e it ((i : Nat) : Int) old) ∧ h.IsTupleIter it a i ∧ e ≠ it) where
  mem := List.mem_cons_self ..
  obj := fun i h st b hb => by
    obtain ⟨⟨old, he⟩, ⟨o, ho, hc, hd⟩, _⟩ := st
    rcases List.mem_cons.mp hb with z | z
    · rw [z]; exact ⟨_, he, fun v q => nomatch q⟩
    · rw [List.mem_singleton.mp z]; exact ⟨o, ho, fun v q => by rw [hd] at q; cases q⟩
  keep := fun i h h' st k => by
    obtain ⟨⟨old, he⟩, hi, hne⟩ := st
    exact ⟨⟨old, k e (List.mem_cons_self ..) _ he⟩, hi.at fun o q => k it (List.mem_cons_of_mem _ (List.mem_singleton.mpr rfl)) o q, hne⟩
  item := by
    intro X hP hw hK hc i pins s σ H E I hf st hg
    subst hP hw hK
    obtain ⟨⟨old, he⟩, hit, hne⟩ := st
    obtain ⟨xs, x, hq, hx⟩ := hg
    obtain ⟨its, rv, p, hz⟩ := I.tuple hq
    obtain ⟨u, hu, ru⟩ := rv.get hx
    have il : i < its.toArray.size := by
      have := (List.getElem?_eq_some_iff.mp hu).1
      rw [List.size_toArray]; exact this
    have hel : e < s.heap.objs.size := Heap.lt_size he
    have hil : it < s.heap.objs.size := by obtain ⟨_, q, _⟩ := hit; exact Heap.lt_size q
    have D := Draws.tuple (prog := X.prog) (w := X.w) (A := X.A.in1) (show X.A.in1.handled = none from I.ok.hd hc) it a ai its.toArray
    refine wpAny_pyNext_enum_itemD D he ⟨hit, p⟩ il hne (fun m => by
      rcases List.mem_cons.mp m with m | m
      · exact hne m
      · exact ae (List.mem_singleton.mp m).symm) fun x' h' tk px ho hst' hT hsz hk => ?_
    have eu : x' = u := by
      have y : its.toArray[i]? = some u := by rw [List.getElem?_toArray]; exact hu
      rw [px] at y
      exact Option.some.inj y
    subst eu
    refine ⟨_, rfl, wpAny_letOwnedTupleGo_enum (s := { s with heap := h', toks := tk + 1 }) ho fun h'' he' sb => ?_⟩
    have hT2 : h''.get? s.heap.objs.size = some { cls := .type "tuple", data := .seq #[.int i tk, x'] } := (sb.2 _ (Nat.ne_of_gt hel)).trans hT
    have new : ObjOk X.prog X.w (upd H s.heap.objs.size (.tup [.int (i : Nat), x])) h'' s.heap.objs.size (.tup [.int (i : Nat), x]) :=
      ⟨two_le, [.int i tk, x'], .cons ⟨_, rfl⟩ (.cons ru .nil), ⟨_, hT2, rfl, _, rfl⟩⟩
    have J : Inv X pins σ (upd H s.heap.objs.size (.tup [.int (i : Nat), x])) { s with heap := h'', toks := tk + 1 } :=
      I.turnedNew (ch := [e, it]) (fun b ob hb q => (sb.2 b (fun z => hb (z ▸ List.mem_cons_self ..))).trans (hk b ob (fun z => hb (z ▸ List.mem_cons_self ..)) (fun z => hb (z ▸ List.mem_cons_of_mem _ (List.mem_singleton.mpr rfl))) q)) hf (Nat.le_refl _) new
    refine ⟨.ref s.heap.objs.size, _, J, rfl, ⟨_, x, rfl, I.hok.fresh (Nat.le_refl _), rfl, fun ys hy => by rw [I.tuple_inj hy hq]; exact hx⟩, ⟨⟨x', ?_⟩, hst'.1.at fun o q => (sb.2 it (Ne.symm hne)).trans q, hne⟩, fun b hb => ?_⟩
    · rw [show ((i + 1 : Nat) : Int) = (i : Int) + 1 by omega]; exact he'
    · have lb : b < s.heap.objs.size := by
        rcases List.mem_cons.mp hb with z | z
        · rw [z]; exact hel
        · rw [List.mem_singleton.mp z]; exact hil
      rw [upd_ne (Nat.ne_of_lt lb)]
      exact (hf b hb).1
  done := by
    intro X hP hw hK hc i pins s σ H E I hf st hg
    subst hP hw hK
    obtain ⟨⟨old, he⟩, hit, hne⟩ := st
    obtain ⟨xs, hq, hx⟩ := hg
    obtain ⟨its, rv, p, hz⟩ := I.tuple hq
    obtain ⟨f0, f1, f2, f3, f4, f5⟩ := hf it (List.mem_cons_of_mem _ (List.mem_singleton.mpr rfl))
    have hl := rv.length
    exact enT_end (I.ok.hd hc) he hit p (by rw [List.size_toArray]; omega) fun h' eb => ⟨rfl, I.turned (t' := s.toks) (fun b o hb q => eb b o hb q) f0 f1 f3 f4 f5⟩
  self := fun A i s Q E st h => by
    obtain ⟨⟨_, he⟩, _⟩ := st
    exact wpAny_pyIter_enum he h
def iEnT (K : PySem.W.Frag) (ta : TA) : TI := fun σ H R => ta σ H fun vs H1 => ∃ a xs, vs = [.ref a] ∧ SqT K H1 a xs ∧ R (Iet K a) H1
theorem pi_enT {X : Cx} {e : PySem.Expr} {ta : TA} {p pos tpos : Pos} {elts : List PySem.Expr} {kk : Nat} (hg : Gl X "enumerate") (hm : X.mg "enumerate" = none) (ha : PA X [e] ta) (hs : starEach [e] X.env = [(false, eval e X.env)] := by rfl) :
    L2.PI X (.Tuple elts kk tpos) (.Call (.Name "enumerate" p) [e] [] pos) (iEnT X.K ta) := by
  refine ⟨fun pins s σ H R I h => Call_ (ld_blt I hg hm boot_enumerate (PyProof.Rows.callWith_type1 (thn (ha.run pos pins s σ H _ I h) fun us s1 ⟨vs, H1, J, r1, q1⟩ => ?_) hs rfl))⟩
  obtain ⟨a, xs, ex, hq, q⟩ := q1
  subst ex
  cases r1 with
  | cons r rr =>
    cases rr
    cases r
    obtain ⟨its, rv, p', hz⟩ := J.tuple hq
    have la : a < s1.heap.objs.size := p'.lt
    refine enT_call p' fun h' he hit hsz hk => wpAny_pyIter_enum he ?_
    have J2 : Inv X pins σ H1 { s1 with heap := h' } := J.kept (t' := s1.toks) hk
    refine ⟨s1.heap.objs.size + 1, [s1.heap.objs.size + 1, s1.heap.objs.size], _, _, H1, rfl, J2, turn_enT a (s1.heap.objs.size + 1) s1.heap.objs.size (Nat.ne_of_lt (Nat.lt_succ_of_lt la)) (Nat.ne_of_lt la), ⟨⟨.none, he⟩, hit, Nat.succ_ne_self _⟩, fun b hb => ?_, q⟩
    have lb : s1.heap.objs.size ≤ b := by
      rcases List.mem_cons.mp hb with z | z
      · rw [z]; exact Nat.le_add_right _ _
      · rw [List.mem_singleton.mp z]; exact Nat.le_refl _
    exact J.fpOk lb (J.hok.fresh lb)
theorem walk_enT {K : PySem.W.Frag} {a : Addr} {xs : List V} : Walk (Iet K a) xs.length (fun H => SqT K H a xs) (YPair (fun i => some (.int (i : Nat))) (fun i => xs[i]?)) := by
  refine ⟨fun i _ hi q => ⟨xs, xs[i], q, List.getElem?_eq_getElem hi⟩, fun _ q => ⟨xs, q, Nat.le_refl _⟩, fun i H v H' _ q y => ?_⟩
  obtain ⟨T, x, h1, h2, h3, h4⟩ := y
  exact ⟨T, .int (i : Nat), x, h1, h2, h3, rfl, h4 xs q⟩
/-- sorted(d) of a dict whose keys are ints -/
@[irreducible] def rSortDI : List V → Hp → VK → Prop := fun xs H Q => ∃ (a : Addr) (kvs : List (Key × V)) (ks : List Int), xs = [.ref a] ∧ Rd H a (.dK kvs) ∧ kvs.map (·.1) = ks.map Sum.inl ∧
  ∀ (ys : List Int) (p : Addr), ys.Perm ks → ys.Pairwise (· ≤ ·) → H p = none → Q (.ref p) (upd H p (.lst (ys.map V.int)))
theorem ints_at : ∀ {vs : List Value} {ns : List Int}, vs.length = ns.length → (∀ (j : Nat) (v : Value), vs[j]? = some v → ∃ i t, ns[j]? = some i ∧ v = Value.int i t) → IntsAre vs ns
  | [], [], _, _ => .nil
  | v :: vs, n :: ns, l, h => by
    obtain ⟨i, t, e, rfl⟩ := h 0 v rfl
    cases (show some n = some i from e)
    exact .cons n t (ints_at (by simpa using l) fun j u z => h (j + 1) u z)
  | [], _ :: _, l, _ => by simp at l
  | _ :: _, [], l, _ => by simp at l
theorem call_sortDI {X : Cx} (hc : X.calm = true) : CallR X (.builtin "sorted") rSortDI := by
  intro pins s σ H xs us Q I r q
  unfold rSortDI at q
  obtain ⟨a, kvs, ks, rfl, hd, hks, q⟩ := q
  rw [Vals.ref1 r]
  obtain ⟨z, lo, vs, rel, dd⟩ := dk_rd I.hok hd
  obtain ⟨ep, hat⟩ := dd.dictAt
  have hkeys : vs.map (·.1) = ks.map Sum.inl := rel.keys.symm.trans hks
  have hl : vs.length = ks.length := by
    have e := congrArg List.length hkeys
    rw [List.length_map, List.length_map] at e; exact e
  have hz : vs.length ≤ sizeLine := by rw [← rel.length]; exact z
  refine Calls.call_function_entry PyProof.Rows.kind_sorted PyProof.Rows.plain_sorted PyProof.Rows.entry_sorted (PyProof.Rows.args_sorted1 _) ?_
  unfold Builtin.«sorted»
  refine wpAny_bind (m := checkCount "sorted" 1 1 _) (wpAny_pure (wpAny_bind (PySem.W.kdu_collect (A := X.A.in1) (PySem.W.kdl_dict (knd := mixKind X.prog X.w) (kvs := vs) (ep := ep) lo) (I.ok.hd hc) hat hz fun h' tk acc hk hacc => ?_)))
  have hal : acc.toList.length = ks.length := by rw [Array.length_toList, hacc.1, hl]
  have hS : IntsAre acc.toList ks := ints_at hal fun j v e => by
    obtain ⟨k, x, e1, e2⟩ := hacc.2 j v (by rw [← Array.getElem?_toList]; exact e)
    have e3 : (vs.map (·.1))[j]? = some k := by rw [List.getElem?_map, e1]; rfl
    rw [hkeys, List.getElem?_map] at e3
    cases e4 : ks[j]? with
    | none => rw [e4] at e3; cases e3
    | some y =>
      rw [e4] at e3
      have e5 : Sum.inl y = k := Option.some.inj e3
      subst e5
      rcases keyIs_shape (show keyIs (Sum.inl y) v = true from e2) with ⟨i, t, ek, ev⟩ | ⟨w', t, ek, ev⟩
      · cases ek; exact ⟨y, t, rfl, ev⟩
      · cases ek
  have J : Inv X pins σ H { s with heap := h', toks := tk } := I.kept hk
  refine wpAny_bind (wpAny_newList ?_ (by rw [hal, ← hl]; exact hz))
  have hoL : (h'.push (seqObj "list" acc.toList.toArray 0)).get? h'.objs.size = some (seqObj "list" acc.toList.toArray 0) := Heap.get?_push_size _ rfl
  show wpAny _ _ _ _ _ { s with heap := h'.push (seqObj "list" acc.toList.toArray 0), toks := tk }
  refine wpAny_bind (wpAny_holding (wpAny_call_entry PyProof.Rows.slot_list_sort ⟨_, hoL, rfl⟩ PyProof.Rows.entry_list_sort
    (SrtO.list_sort_ord (s := { s with heap := h'.push (seqObj "list" acc.toList.toArray 0), toks := tk }) SrtO.swo_int hoL (by rw [hal, ← hl]; exact hz) (fun h2 => SrtO.ints_sortable hS h2) fun out k1 k2 => ⟨_, rfl, ?_⟩) (PyProof.Rows.args_list_sort _)))
  obtain ⟨g1, g2, g3⟩ := SrtO.ints_out hS k1 k2
  obtain ⟨e', he'⟩ := PyProof.Rows.sortedHeap_at (vs := acc.toList) (out := out.toArray) hoL
  have hlen : ((out.map SrtO.iv).map V.int).length ≤ sizeLine := by rw [List.length_map, g2.length_eq, ← hl]; exact hz
  refine wpAny_pure ⟨_, rfl, .ref h'.objs.size, upd H h'.objs.size (.lst ((out.map SrtO.iv).map V.int)), J.laid (t' := tk) (fun b u e => ?_) (Nat.le_refl _)
    (show ObjOk X.prog X.w _ _ _ (.lst ((out.map SrtO.iv).map V.int)) from ⟨hlen, out, e', vals_of_ints g1, he'⟩), rfl, q _ _ g2 g3 (J.hok.fresh (Nat.le_refl _))⟩
  have hb : b < h'.objs.size := Heap.lt_size e
  rw [PyProof.Rows.sortedHeap_old (Nat.ne_of_lt hb) (by rw [Heap.size_push]; exact Nat.lt_succ_of_lt hb)]
  exact Heap.get?_push_of_some _ e
end
def top (i : Nat) : Stmt := PySem.Challenge.pw_endnever_k93_whole_blocks_of_four.main.body.getD i (.Pass ⟨0, 0, 0, 0⟩)
abbrev s_L_mixed : Stmt := top 23
abbrev N_L_mixed : List Str := ["_law_cell", "_law_k", "_law_rest", "_law_number"]
theorem sc_L_mixed : FnScope ["_law_cell", "_law_k", "_law_rest", "_law_number"] ["_law_cell", "_law_k"] (defScope s_L_mixed) := ⟨rfl, rfl, rfl, by decide +kernel, rfl, by decide +kernel, by decide +kernel⟩
abbrev s_L_purse : Stmt := top 24
abbrev N_L_purse : List Str := ["_law_script", "_law_cells", "_law_number", "_law_k"]
theorem sc_L_purse : FnScope ["_law_script", "_law_cells", "_law_number", "_law_k"] ["_law_script"] (defScope s_L_purse) := ⟨rfl, rfl, rfl, by decide +kernel, rfl, by decide +kernel, by decide +kernel⟩
abbrev s_L_draw : Stmt := top 25
abbrev N_L_draw : List Str := ["_law_purse_here", "_law_out_of", "_law_drawn"]
theorem sc_L_draw : FnScope ["_law_purse_here", "_law_out_of", "_law_drawn"] ["_law_purse_here", "_law_out_of"] (defScope s_L_draw) := ⟨rfl, rfl, rfl, by decide +kernel, rfl, by decide +kernel, by decide +kernel⟩
abbrev s_L_small : Stmt := top 26
abbrev N_L_small : List Str := ["_law_purse_here", "_law_rows", "_law_found", "_law_empty", "_law_row", "_law_entries", "_law_sign", "_law_entry"]
theorem sc_L_small : FnScope ["_law_purse_here", "_law_rows", "_law_found", "_law_empty", "_law_row", "_law_entries", "_law_sign", "_law_entry"] ["_law_purse_here"] (defScope s_L_small) := ⟨rfl, rfl, rfl, by decide +kernel, rfl, by decide +kernel, by decide +kernel⟩
abbrev s_is_entry : Stmt := top 7
abbrev N_is_entry : List Str := ["entry", "rows", "signs"]
theorem sc_is_entry : FnScope ["entry", "rows", "signs"] ["entry", "rows", "signs"] (defScope s_is_entry) := ⟨rfl, rfl, rfl, by decide +kernel, rfl, by decide +kernel, by decide +kernel⟩
abbrev s_is_machine : Stmt := top 8
abbrev N_is_machine : List Str := ["machine", "rows", "signs", "row", "entry"]
theorem sc_is_machine : FnScope ["machine", "rows", "signs", "row", "entry"] ["machine"] (defScope s_is_machine) := ⟨rfl, rfl, rfl, by decide +kernel, rfl, by decide +kernel, by decide +kernel⟩
abbrev s_must_machine : Stmt := top 9
abbrev N_must_machine : List Str := ["machine"]
theorem sc_must_machine : FnScope ["machine"] ["machine"] (defScope s_must_machine) := ⟨rfl, rfl, rfl, by decide +kernel, rfl, by decide +kernel, by decide +kernel⟩
abbrev s_must_blocks : Stmt := top 18
abbrev N_must_blocks : List Str := ["machine"]
theorem sc_must_blocks : FnScope ["machine"] ["machine"] (defScope s_must_blocks) := ⟨rfl, rfl, rfl, by decide +kernel, rfl, by decide +kernel, by decide +kernel⟩
abbrev s_most_setups : Stmt := top 11
abbrev N_most_setups : List Str := ["machine", "block", "found", "sign"]
theorem sc_most_setups : FnScope ["machine", "block", "found", "sign"] ["machine", "block"] (defScope s_most_setups) := ⟨rfl, rfl, rfl, by decide +kernel, rfl, by decide +kernel, by decide +kernel⟩
abbrev s_through : Stmt := top 12
abbrev N_through : List Str := ["machine", "block", "row", "side", "signs", "place", "steps", "entry"]
theorem sc_through : FnScope ["machine", "block", "row", "side", "signs", "place", "steps", "entry"] ["machine", "block", "row", "side"] (defScope s_through) := ⟨rfl, rfl, rfl, by decide +kernel, rfl, by decide +kernel, by decide +kernel⟩
abbrev s_near_row : Stmt := top 19
abbrev N_near_row : List Str := ["row", "side"]
theorem sc_near_row : FnScope ["row", "side"] ["row", "side"] (defScope s_near_row) := ⟨rfl, rfl, rfl, by decide +kernel, rfl, by decide +kernel, by decide +kernel⟩
abbrev s_entry_over : Stmt := top 20
abbrev N_entry_over : List Str := ["machine", "row", "side", "sign", "found", "word", "block", "goes", "way", "steps"]
theorem sc_entry_over : FnScope ["machine", "row", "side", "sign", "found", "word", "block", "goes", "way", "steps"] ["machine", "row", "side", "sign"] (defScope s_entry_over) := ⟨rfl, rfl, rfl, by decide +kernel, rfl, by decide +kernel, by decide +kernel⟩
abbrev s_over_blocks : Stmt := top 21
abbrev N_over_blocks : List Str := ["machine", "table", "stays", "row", "side", "entries", "sign", "entry", "staying"]
theorem sc_over_blocks : FnScope ["machine", "table", "stays", "row", "side", "entries", "sign", "entry", "staying"] ["machine"] (defScope s_over_blocks) := ⟨rfl, rfl, rfl, by decide +kernel, rfl, by decide +kernel, by decide +kernel⟩
abbrev s_Walk_init : Stmt := inClass (top 13) 0
abbrev N_Walk_init : List Str := ["self", "long"]
theorem sc_Walk_init : FnScope ["self", "long"] ["self", "long"] (defScope s_Walk_init) := ⟨rfl, rfl, rfl, by decide +kernel, rfl, by decide +kernel, by decide +kernel⟩
abbrev s_Walk_out : Stmt := inClass (top 13) 3
abbrev N_Walk_out : List Str := ["self", "found", "word", "signs", "row", "way", "steps"]
theorem sc_Walk_out : FnScope ["self", "found", "word", "signs", "row", "way", "steps"] ["self", "found"] (defScope s_Walk_out) := ⟨rfl, rfl, rfl, by decide +kernel, rfl, by decide +kernel, by decide +kernel⟩
abbrev s_Walk_place : Stmt := inClass (top 13) 2
abbrev N_Walk_place : List Str := ["self"]
theorem sc_Walk_place : FnScope ["self"] ["self"] (defScope s_Walk_place) := ⟨rfl, rfl, rfl, by decide +kernel, rfl, by decide +kernel, by decide +kernel⟩
abbrev s_Walk_strip : Stmt := inClass (top 13) 4
abbrev N_Walk_strip : List Str := ["self", "found", "at", "k", "sign"]
theorem sc_Walk_strip : FnScope ["self", "found", "at", "k", "sign"] ["self"] (defScope s_Walk_strip) := ⟨rfl, rfl, rfl, by decide +kernel, rfl, by decide +kernel, by decide +kernel⟩
abbrev s_Walk_block : Stmt := inClass (top 13) 1
abbrev N_Walk_block : List Str := ["self"]
theorem sc_Walk_block : FnScope ["self"] ["self"] (defScope s_Walk_block) := ⟨rfl, rfl, rfl, by decide +kernel, rfl, by decide +kernel, by decide +kernel⟩
abbrev s_by_blocks : Stmt := top 14
abbrev N_by_blocks : List Str := ["machine", "k", "many", "walk", "turn", "found", "word", "signs", "row", "place", "steps"]
theorem sc_by_blocks : FnScope ["machine", "k", "many", "walk", "turn", "found", "word", "signs", "row", "place", "steps"] ["machine", "k", "many"] (defScope s_by_blocks) := ⟨rfl, rfl, rfl, by decide +kernel, rfl, by decide +kernel, by decide +kernel⟩
abbrev s_L_signs : Stmt := top 27
abbrev N_L_signs : List Str := ["_law_strip", "_law_found", "_law_place", "_law_sign"]
theorem sc_L_signs : FnScope ["_law_strip", "_law_found", "_law_place", "_law_sign"] ["_law_strip"] (defScope s_L_signs) := ⟨rfl, rfl, rfl, by decide +kernel, rfl, by decide +kernel, by decide +kernel⟩
abbrev s_L_walks : Stmt := top 31
abbrev N_L_walks : List Str := ["_law_machine", "_law_table", "_law_stays", "_law_many", "_law_word", "_law_steps", "_law_row", "_law_place", "_law_strip", "_law_told", "_law_others", "_law_one"]
theorem sc_L_walks : FnScope ["_law_machine", "_law_table", "_law_stays", "_law_many", "_law_word", "_law_steps", "_law_row", "_law_place", "_law_strip", "_law_told", "_law_others", "_law_one"] ["_law_machine", "_law_table", "_law_stays", "_law_many"] (defScope s_L_walks) := ⟨rfl, rfl, rfl, by decide +kernel, rfl, by decide +kernel, by decide +kernel⟩
abbrev s_L_parted : Stmt := top 28
abbrev N_L_parted : List Str := ["_law_block"]
theorem sc_L_parted : FnScope ["_law_block"] ["_law_block"] (defScope s_L_parted) := ⟨rfl, rfl, rfl, by decide +kernel, rfl, by decide +kernel, by decide +kernel⟩
abbrev s_L_spread : Stmt := top 29
abbrev N_L_spread : List Str := ["_law_signs_here", "_law_found", "_law_sign"]
theorem sc_L_spread : FnScope ["_law_signs_here", "_law_found", "_law_sign"] ["_law_signs_here"] (defScope s_L_spread) := ⟨rfl, rfl, rfl, by decide +kernel, rfl, by decide +kernel, by decide +kernel⟩
abbrev s_L_blocks : Stmt := top 30
abbrev N_L_blocks : List Str := ["_law_machine", "_law_table", "_law_stays", "_law_row", "_law_side", "_law_block", "_law_found", "_law_told", "_law_k"]
theorem sc_L_blocks : FnScope ["_law_machine", "_law_table", "_law_stays", "_law_row", "_law_side", "_law_block", "_law_found", "_law_told", "_law_k"] ["_law_machine", "_law_table", "_law_stays", "_law_row", "_law_side", "_law_block"] (defScope s_L_blocks) := ⟨rfl, rfl, rfl, by decide +kernel, rfl, by decide +kernel, by decide +kernel⟩
abbrev s_law : Stmt := top 32
abbrev N_law : List Str := ["_law_script", "_law_purse_here", "_law_machine", "_law_table", "_law_stays", "_law_block", "_law_row", "_law_side", "_law_many"]
theorem sc_law : FnScope ["_law_script", "_law_purse_here", "_law_machine", "_law_table", "_law_stays", "_law_block", "_law_row", "_law_side", "_law_many"] ["_law_script"] (defScope s_law) := ⟨rfl, rfl, rfl, by decide +kernel, rfl, by decide +kernel, by decide +kernel⟩
/-- what the top has written: where each def stands, what the names hold -/
structure Tx (K : PySem.W.Frag) (mg : Str → Option Value) where
  a_L_mixed : Addr
  fd_L_mixed : FuncData
  F_L_mixed : Fun K "_law_mixed" "_law_mixed" s_L_mixed a_L_mixed fd_L_mixed
  b_L_mixed : Binds K fd_L_mixed ["_law_cell", "_law_k"] []
  m_L_mixed : mg "_law_mixed" = some (.ref a_L_mixed)
  a_L_purse : Addr
  fd_L_purse : FuncData
  F_L_purse : Fun K "_law_purse" "_law_purse" s_L_purse a_L_purse fd_L_purse
  b_L_purse : Binds K fd_L_purse ["_law_script"] []
  m_L_purse : mg "_law_purse" = some (.ref a_L_purse)
  a_L_draw : Addr
  fd_L_draw : FuncData
  F_L_draw : Fun K "_law_draw" "_law_draw" s_L_draw a_L_draw fd_L_draw
  b_L_draw : Binds K fd_L_draw ["_law_purse_here", "_law_out_of"] []
  m_L_draw : mg "_law_draw" = some (.ref a_L_draw)
  a_L_small : Addr
  fd_L_small : FuncData
  F_L_small : Fun K "_law_small" "_law_small" s_L_small a_L_small fd_L_small
  b_L_small : Binds K fd_L_small ["_law_purse_here"] []
  m_L_small : mg "_law_small" = some (.ref a_L_small)
  a_is_entry : Addr
  fd_is_entry : FuncData
  F_is_entry : Fun K "is_entry" "is_entry" s_is_entry a_is_entry fd_is_entry
  b_is_entry : Binds K fd_is_entry ["entry", "rows", "signs"] []
  m_is_entry : mg "is_entry" = some (.ref a_is_entry)
  a_is_machine : Addr
  fd_is_machine : FuncData
  F_is_machine : Fun K "is_machine" "is_machine" s_is_machine a_is_machine fd_is_machine
  b_is_machine : Binds K fd_is_machine ["machine"] []
  m_is_machine : mg "is_machine" = some (.ref a_is_machine)
  a_must_machine : Addr
  fd_must_machine : FuncData
  F_must_machine : Fun K "must_machine" "must_machine" s_must_machine a_must_machine fd_must_machine
  b_must_machine : Binds K fd_must_machine ["machine"] []
  m_must_machine : mg "must_machine" = some (.ref a_must_machine)
  a_must_blocks : Addr
  fd_must_blocks : FuncData
  F_must_blocks : Fun K "must_blocks" "must_blocks" s_must_blocks a_must_blocks fd_must_blocks
  b_must_blocks : Binds K fd_must_blocks ["machine"] []
  m_must_blocks : mg "must_blocks" = some (.ref a_must_blocks)
  a_most_setups : Addr
  fd_most_setups : FuncData
  F_most_setups : Fun K "most_setups" "most_setups" s_most_setups a_most_setups fd_most_setups
  b_most_setups : Binds K fd_most_setups ["machine", "block"] []
  m_most_setups : mg "most_setups" = some (.ref a_most_setups)
  a_through : Addr
  fd_through : FuncData
  F_through : Fun K "through" "through" s_through a_through fd_through
  b_through : Binds K fd_through ["machine", "block", "row", "side"] []
  m_through : mg "through" = some (.ref a_through)
  a_near_row : Addr
  fd_near_row : FuncData
  F_near_row : Fun K "near_row" "near_row" s_near_row a_near_row fd_near_row
  b_near_row : Binds K fd_near_row ["row", "side"] []
  m_near_row : mg "near_row" = some (.ref a_near_row)
  a_entry_over : Addr
  fd_entry_over : FuncData
  F_entry_over : Fun K "entry_over" "entry_over" s_entry_over a_entry_over fd_entry_over
  b_entry_over : Binds K fd_entry_over ["machine", "row", "side", "sign"] []
  m_entry_over : mg "entry_over" = some (.ref a_entry_over)
  a_over_blocks : Addr
  fd_over_blocks : FuncData
  F_over_blocks : Fun K "over_blocks" "over_blocks" s_over_blocks a_over_blocks fd_over_blocks
  b_over_blocks : Binds K fd_over_blocks ["machine"] []
  m_over_blocks : mg "over_blocks" = some (.ref a_over_blocks)
  a_Walk_init : Addr
  fd_Walk_init : FuncData
  F_Walk_init : Fun K "__init__" "Walk.__init__" s_Walk_init a_Walk_init fd_Walk_init
  b_Walk_init : Binds K fd_Walk_init ["self", "long"] []
  a_Walk_out : Addr
  fd_Walk_out : FuncData
  F_Walk_out : Fun K "out" "Walk.out" s_Walk_out a_Walk_out fd_Walk_out
  b_Walk_out : Binds K fd_Walk_out ["self", "found"] []
  a_Walk_place : Addr
  fd_Walk_place : FuncData
  F_Walk_place : Fun K "place" "Walk.place" s_Walk_place a_Walk_place fd_Walk_place
  b_Walk_place : Binds K fd_Walk_place ["self"] []
  a_Walk_strip : Addr
  fd_Walk_strip : FuncData
  F_Walk_strip : Fun K "strip" "Walk.strip" s_Walk_strip a_Walk_strip fd_Walk_strip
  b_Walk_strip : Binds K fd_Walk_strip ["self"] []
  a_Walk_block : Addr
  fd_Walk_block : FuncData
  F_Walk_block : Fun K "block" "Walk.block" s_Walk_block a_Walk_block fd_Walk_block
  b_Walk_block : Binds K fd_Walk_block ["self"] []
  a_by_blocks : Addr
  fd_by_blocks : FuncData
  F_by_blocks : Fun K "by_blocks" "by_blocks" s_by_blocks a_by_blocks fd_by_blocks
  b_by_blocks : Binds K fd_by_blocks ["machine", "k", "many"] []
  m_by_blocks : mg "by_blocks" = some (.ref a_by_blocks)
  a_L_signs : Addr
  fd_L_signs : FuncData
  F_L_signs : Fun K "_law_signs" "_law_signs" s_L_signs a_L_signs fd_L_signs
  b_L_signs : Binds K fd_L_signs ["_law_strip"] []
  m_L_signs : mg "_law_signs" = some (.ref a_L_signs)
  a_L_walks : Addr
  fd_L_walks : FuncData
  F_L_walks : Fun K "_law_walks" "_law_walks" s_L_walks a_L_walks fd_L_walks
  b_L_walks : Binds K fd_L_walks ["_law_machine", "_law_table", "_law_stays", "_law_many"] []
  m_L_walks : mg "_law_walks" = some (.ref a_L_walks)
  a_L_parted : Addr
  fd_L_parted : FuncData
  F_L_parted : Fun K "_law_parted" "_law_parted" s_L_parted a_L_parted fd_L_parted
  b_L_parted : Binds K fd_L_parted ["_law_block"] []
  m_L_parted : mg "_law_parted" = some (.ref a_L_parted)
  a_L_spread : Addr
  fd_L_spread : FuncData
  F_L_spread : Fun K "_law_spread" "_law_spread" s_L_spread a_L_spread fd_L_spread
  b_L_spread : Binds K fd_L_spread ["_law_signs_here"] []
  m_L_spread : mg "_law_spread" = some (.ref a_L_spread)
  a_L_blocks : Addr
  fd_L_blocks : FuncData
  F_L_blocks : Fun K "_law_blocks" "_law_blocks" s_L_blocks a_L_blocks fd_L_blocks
  b_L_blocks : Binds K fd_L_blocks ["_law_machine", "_law_table", "_law_stays", "_law_row", "_law_side", "_law_block"] []
  m_L_blocks : mg "_law_blocks" = some (.ref a_L_blocks)
  a_law : Addr
  fd_law : FuncData
  F_law : Fun K "law" "law" s_law a_law fd_law
  b_law : Binds K fd_law ["_law_script"] []
  m_law : mg "law" = some (.ref a_law)
  C_NoMachine : Addr
  m_NoMachine : mg "NoMachine" = some (.ref C_NoMachine)
  C_NoSize : Addr
  m_NoSize : mg "NoSize" = some (.ref C_NoSize)
  C_Walk : Addr
  m_Walk : mg "Walk" = some (.ref C_Walk)
  cl_Walk : Cls K C_Walk
  M_Walk : Mk K C_Walk a_Walk_init
  M_Walk_block : Meth K C_Walk "block" a_Walk_block
  M_Walk_place : Meth K C_Walk "place" a_Walk_place
  M_Walk_out : Meth K C_Walk "out" a_Walk_out
  M_Walk_strip : Meth K C_Walk "strip" a_Walk_strip
  nA_Walk_long : NoAttr K C_Walk "long"
  nA_Walk_blocks : NoAttr K C_Walk "blocks"
  nA_Walk_at : NoAttr K C_Walk "at"
  nA_Walk_row : NoAttr K C_Walk "row"
  nA_Walk_side : NoAttr K C_Walk "side"
  nA_Walk_steps : NoAttr K C_Walk "steps"
  tk_MOST_ROWS_machines : Tok
  m_MOST_ROWS_machines : mg "MOST_ROWS_machines" = some (.int 4 tk_MOST_ROWS_machines)
  tk_MOST_SIGNS : Tok
  m_MOST_SIGNS : mg "MOST_SIGNS" = some (.int 4 tk_MOST_SIGNS)
  tk_MOST_ROWS_blocked : Tok
  m_MOST_ROWS_blocked : mg "MOST_ROWS_blocked" = some (.int 2 tk_MOST_ROWS_blocked)
  tk_BLOCK_SIGNS : Tok
  m_BLOCK_SIGNS : mg "BLOCK_SIGNS" = some (.int 4 tk_BLOCK_SIGNS)
  n_range : mg "range" = none
  n_len : mg "len" = none
  n_all : mg "all" = none
  n_list : mg "list" = none
  n_tuple : mg "tuple" = none
  n_sorted : mg "sorted" = none
  n_enumerate : mg "enumerate" = none
  n_dict : mg "dict" = none
  n_int : mg "int" = none
/-! ### the fields of a Walk -/
theorem ne_Walk_long_blocks : ¬ (("long" : Str) = "blocks") := by decide +kernel
theorem ne_Walk_long_at : ¬ (("long" : Str) = "at") := by decide +kernel
theorem ne_Walk_long_row : ¬ (("long" : Str) = "row") := by decide +kernel
theorem ne_Walk_long_side : ¬ (("long" : Str) = "side") := by decide +kernel
theorem ne_Walk_long_steps : ¬ (("long" : Str) = "steps") := by decide +kernel
theorem ne_Walk_blocks_long : ¬ (("blocks" : Str) = "long") := by decide +kernel
theorem ne_Walk_blocks_at : ¬ (("blocks" : Str) = "at") := by decide +kernel
theorem ne_Walk_blocks_row : ¬ (("blocks" : Str) = "row") := by decide +kernel
theorem ne_Walk_blocks_side : ¬ (("blocks" : Str) = "side") := by decide +kernel
theorem ne_Walk_blocks_steps : ¬ (("blocks" : Str) = "steps") := by decide +kernel
theorem ne_Walk_at_long : ¬ (("at" : Str) = "long") := by decide +kernel
theorem ne_Walk_at_blocks : ¬ (("at" : Str) = "blocks") := by decide +kernel
theorem ne_Walk_at_row : ¬ (("at" : Str) = "row") := by decide +kernel
theorem ne_Walk_at_side : ¬ (("at" : Str) = "side") := by decide +kernel
theorem ne_Walk_at_steps : ¬ (("at" : Str) = "steps") := by decide +kernel
theorem ne_Walk_row_long : ¬ (("row" : Str) = "long") := by decide +kernel
theorem ne_Walk_row_blocks : ¬ (("row" : Str) = "blocks") := by decide +kernel
theorem ne_Walk_row_at : ¬ (("row" : Str) = "at") := by decide +kernel
theorem ne_Walk_row_side : ¬ (("row" : Str) = "side") := by decide +kernel
theorem ne_Walk_row_steps : ¬ (("row" : Str) = "steps") := by decide +kernel
theorem ne_Walk_side_long : ¬ (("side" : Str) = "long") := by decide +kernel
theorem ne_Walk_side_blocks : ¬ (("side" : Str) = "blocks") := by decide +kernel
theorem ne_Walk_side_at : ¬ (("side" : Str) = "at") := by decide +kernel
theorem ne_Walk_side_row : ¬ (("side" : Str) = "row") := by decide +kernel
theorem ne_Walk_side_steps : ¬ (("side" : Str) = "steps") := by decide +kernel
theorem ne_Walk_steps_long : ¬ (("steps" : Str) = "long") := by decide +kernel
theorem ne_Walk_steps_blocks : ¬ (("steps" : Str) = "blocks") := by decide +kernel
theorem ne_Walk_steps_at : ¬ (("steps" : Str) = "at") := by decide +kernel
theorem ne_Walk_steps_row : ¬ (("steps" : Str) = "row") := by decide +kernel
theorem ne_Walk_steps_side : ¬ (("steps" : Str) = "side") := by decide +kernel
def Walk_F (v0 v1 v2 v3 v4 v5 : V) : List (Str × V) := [("long", v0), ("blocks", v1), ("at", v2), ("row", v3), ("side", v4), ("steps", v5)]
theorem Walk_mk0 (v0 : V) : putF "long" v0 ([] : List (Str × V)) = ([("long", v0)] : List (Str × V)) := by
  simp only [putF]
theorem Walk_mk1 (v0 v1 : V) : putF "blocks" v1 ([("long", v0)] : List (Str × V)) = ([("long", v0), ("blocks", v1)] : List (Str × V)) := by
  simp only [putF, if_neg ne_Walk_long_blocks]
theorem Walk_mk2 (v0 v1 v2 : V) : putF "at" v2 ([("long", v0), ("blocks", v1)] : List (Str × V)) = ([("long", v0), ("blocks", v1), ("at", v2)] : List (Str × V)) := by
  simp only [putF, if_neg ne_Walk_long_at, if_neg ne_Walk_blocks_at]
theorem Walk_mk3 (v0 v1 v2 v3 : V) : putF "row" v3 ([("long", v0), ("blocks", v1), ("at", v2)] : List (Str × V)) = ([("long", v0), ("blocks", v1), ("at", v2), ("row", v3)] : List (Str × V)) := by
  simp only [putF, if_neg ne_Walk_long_row, if_neg ne_Walk_blocks_row, if_neg ne_Walk_at_row]
theorem Walk_mk4 (v0 v1 v2 v3 v4 : V) : putF "side" v4 ([("long", v0), ("blocks", v1), ("at", v2), ("row", v3)] : List (Str × V)) = ([("long", v0), ("blocks", v1), ("at", v2), ("row", v3), ("side", v4)] : List (Str × V)) := by
  simp only [putF, if_neg ne_Walk_long_side, if_neg ne_Walk_blocks_side, if_neg ne_Walk_at_side, if_neg ne_Walk_row_side]
theorem Walk_mk5 (v0 v1 v2 v3 v4 v5 : V) : putF "steps" v5 ([("long", v0), ("blocks", v1), ("at", v2), ("row", v3), ("side", v4)] : List (Str × V)) = ([("long", v0), ("blocks", v1), ("at", v2), ("row", v3), ("side", v4), ("steps", v5)] : List (Str × V)) := by
  simp only [putF, if_neg ne_Walk_long_steps, if_neg ne_Walk_blocks_steps, if_neg ne_Walk_at_steps, if_neg ne_Walk_row_steps, if_neg ne_Walk_side_steps]
theorem Walk_get_long {v0 v1 v2 v3 v4 v5 : V} : (Walk_F v0 v1 v2 v3 v4 v5).lookup ("long" : Str) = some v0 := by
  have e : Walk_F v0 v1 v2 v3 v4 v5 = putF "long" v0 (Walk_F v0 v1 v2 v3 v4 v5) := by
    unfold Walk_F
    simp only [putF, if_true]
  rw [e, lookup_putF, if_pos rfl]
theorem Walk_put_long {v0 v1 v2 v3 v4 v5 y : V} : putF "long" y (Walk_F v0 v1 v2 v3 v4 v5) = Walk_F y v1 v2 v3 v4 v5 := by
  unfold Walk_F
  simp only [putF, if_true]
theorem Walk_get_blocks {v0 v1 v2 v3 v4 v5 : V} : (Walk_F v0 v1 v2 v3 v4 v5).lookup ("blocks" : Str) = some v1 := by
  have e : Walk_F v0 v1 v2 v3 v4 v5 = putF "blocks" v1 (Walk_F v0 v1 v2 v3 v4 v5) := by
    unfold Walk_F
    simp only [putF, if_neg ne_Walk_long_blocks, if_true]
  rw [e, lookup_putF, if_pos rfl]
theorem Walk_put_blocks {v0 v1 v2 v3 v4 v5 y : V} : putF "blocks" y (Walk_F v0 v1 v2 v3 v4 v5) = Walk_F v0 y v2 v3 v4 v5 := by
  unfold Walk_F
  simp only [putF, if_neg ne_Walk_long_blocks, if_true]
theorem Walk_get_at {v0 v1 v2 v3 v4 v5 : V} : (Walk_F v0 v1 v2 v3 v4 v5).lookup ("at" : Str) = some v2 := by
  have e : Walk_F v0 v1 v2 v3 v4 v5 = putF "at" v2 (Walk_F v0 v1 v2 v3 v4 v5) := by
    unfold Walk_F
    simp only [putF, if_neg ne_Walk_long_at, if_neg ne_Walk_blocks_at, if_true]
  rw [e, lookup_putF, if_pos rfl]
theorem Walk_put_at {v0 v1 v2 v3 v4 v5 y : V} : putF "at" y (Walk_F v0 v1 v2 v3 v4 v5) = Walk_F v0 v1 y v3 v4 v5 := by
  unfold Walk_F
  simp only [putF, if_neg ne_Walk_long_at, if_neg ne_Walk_blocks_at, if_true]
theorem Walk_get_row {v0 v1 v2 v3 v4 v5 : V} : (Walk_F v0 v1 v2 v3 v4 v5).lookup ("row" : Str) = some v3 := by
  have e : Walk_F v0 v1 v2 v3 v4 v5 = putF "row" v3 (Walk_F v0 v1 v2 v3 v4 v5) := by
    unfold Walk_F
    simp only [putF, if_neg ne_Walk_long_row, if_neg ne_Walk_blocks_row, if_neg ne_Walk_at_row, if_true]
  rw [e, lookup_putF, if_pos rfl]
theorem Walk_put_row {v0 v1 v2 v3 v4 v5 y : V} : putF "row" y (Walk_F v0 v1 v2 v3 v4 v5) = Walk_F v0 v1 v2 y v4 v5 := by
  unfold Walk_F
  simp only [putF, if_neg ne_Walk_long_row, if_neg ne_Walk_blocks_row, if_neg ne_Walk_at_row, if_true]
theorem Walk_get_side {v0 v1 v2 v3 v4 v5 : V} : (Walk_F v0 v1 v2 v3 v4 v5).lookup ("side" : Str) = some v4 := by
  have e : Walk_F v0 v1 v2 v3 v4 v5 = putF "side" v4 (Walk_F v0 v1 v2 v3 v4 v5) := by
    unfold Walk_F
    simp only [putF, if_neg ne_Walk_long_side, if_neg ne_Walk_blocks_side, if_neg ne_Walk_at_side, if_neg ne_Walk_row_side, if_true]
  rw [e, lookup_putF, if_pos rfl]
theorem Walk_put_side {v0 v1 v2 v3 v4 v5 y : V} : putF "side" y (Walk_F v0 v1 v2 v3 v4 v5) = Walk_F v0 v1 v2 v3 y v5 := by
  unfold Walk_F
  simp only [putF, if_neg ne_Walk_long_side, if_neg ne_Walk_blocks_side, if_neg ne_Walk_at_side, if_neg ne_Walk_row_side, if_true]
theorem Walk_get_steps {v0 v1 v2 v3 v4 v5 : V} : (Walk_F v0 v1 v2 v3 v4 v5).lookup ("steps" : Str) = some v5 := by
  have e : Walk_F v0 v1 v2 v3 v4 v5 = putF "steps" v5 (Walk_F v0 v1 v2 v3 v4 v5) := by
    unfold Walk_F
    simp only [putF, if_neg ne_Walk_long_steps, if_neg ne_Walk_blocks_steps, if_neg ne_Walk_at_steps, if_neg ne_Walk_row_steps, if_neg ne_Walk_side_steps, if_true]
  rw [e, lookup_putF, if_pos rfl]
theorem Walk_put_steps {v0 v1 v2 v3 v4 v5 y : V} : putF "steps" y (Walk_F v0 v1 v2 v3 v4 v5) = Walk_F v0 v1 v2 v3 v4 y := by
  unfold Walk_F
  simp only [putF, if_neg ne_Walk_long_steps, if_neg ne_Walk_blocks_steps, if_neg ne_Walk_at_steps, if_neg ne_Walk_row_steps, if_neg ne_Walk_side_steps, if_true]
theorem Walk_no {v0 v1 v2 v3 v4 v5 : V} {m : Str} (h0 : ¬ m = "long") (h1 : ¬ m = "blocks") (h2 : ¬ m = "at") (h3 : ¬ m = "row") (h4 : ¬ m = "side") (h5 : ¬ m = "steps") : (Walk_F v0 v1 v2 v3 v4 v5).lookup m = none := by
  have h : ∀ (f : Str) (v : V) (r : List (Str × V)), ¬ m = f → r.lookup m = none → ((f, v) :: r).lookup m = none := fun f v r n q => by
    rw [List.lookup_cons, beq_eq_false_iff_ne.mpr n]; exact q
  unfold Walk_F
  exact h _ _ _ h0 (h _ _ _ h1 (h _ _ _ h2 (h _ _ _ h3 (h _ _ _ h4 (h _ _ _ h5 rfl)))))
theorem Walk_few {v0 v1 v2 v3 v4 v5 : V} : (Walk_F v0 v1 v2 v3 v4 v5).length < 1000 := by show 6 < 1000; decide
section
variable {P : Program} {w : World} {K : PySem.W.Frag} {mg : Str → Option Value} {base : Heap}
/-! ### small things -/
theorem ln {H : Hp} {p q : Addr} {o u : HO} (n : H q = none) (h : H p = some o) : upd H q u p = some o := (upd_ne (ne_of_none h n)).trans h
theorem kt_int_int {K : PySem.W.Frag} : PySem.W.kitOne K (.type "int") (.type "int") = some true := kit_ty (by decide +kernel)
theorem kt_int_bool {K : PySem.W.Frag} : PySem.W.kitOne K (.type "int") (.type "bool") = some false := kit_ty (by decide +kernel)
theorem kt_tup {K : PySem.W.Frag} : PySem.W.kitOne K (.type "tuple") (.type "tuple") = some true := kit_ty (by decide +kernel)
theorem kt_list {K : PySem.W.Frag} : PySem.W.kitOne K (.type "list") (.type "list") = some true := kit_ty (by decide +kernel)
theorem gr_purse {H H1 : Hp} (s : Same H H1) : Gr mu0 H H H H1 := ⟨fun _ _ h => h, s, fun _ _ h => .inl h, fun c o h _ => s c o h, fun c h => s.free h⟩
theorem at_end {xs : List V} {k : Nat} {v : V} (l : xs.length = k + 1) (h : xs[k]? = some v) : atI xs (-1) = some v := by
  have e : ixN xs.length (-1) = some k := by
    unfold ixN
    rw [if_neg (by decide), if_pos (by omega)]
    congr 1
    omega
  unfold atI
  rw [e]
  exact h
theorem cut_all {xs : List V} {j : Nat} (h : xs.length ≤ j) : cutV xs none (some (j : Int)) = xs := by
  unfold cutV
  have e1 : HT.sIx xs.length 0 none = 0 := rfl
  have e2 : HT.sIx xs.length xs.length (some (j : Int)) = xs.length := by
    simp only [HT.sIx]
    rw [if_neg (by omega), Int.toNat_natCast]
    omega
  rw [e1, e2, List.drop_zero, Nat.sub_zero, List.take_length]
theorem map_take_succ {α β : Type} {f : α → β} {xs : List α} {i : Nat} {x : α} (h : xs[i]? = some x) : (xs.take (i + 1)).map f = (xs.take i).map f ++ [f x] := by
  rw [List.take_add_one, h, List.map_append]; rfl
theorem cut_1 {xs : List V} : cutV xs (some 1) none = xs.drop 1 := by
  unfold cutV
  have e2 : HT.sIx xs.length xs.length none = xs.length := rfl
  rw [e2]
  cases xs with
  | nil => simp
  | cons x xs =>
    have e1 : HT.sIx (x :: xs).length 0 (some 1) = 1 := by
      simp only [HT.sIx, List.length_cons]
      rw [if_neg (by decide), show (1 : Int).toNat = 1 from rfl]
      omega
    rw [e1]
    show (xs.take (xs.length + 1 - 1)) = xs
    rw [Nat.add_sub_cancel, List.take_length]
theorem cut32 : ¬ (HT.sIx 3 0 none = 0 ∧ HT.sIx 3 3 (some 2) = 3) := by decide
theorem Gr.frzS {mu : Addr → Prop} {F H F1 H1 : Hp} (g : Gr mu F H F1 H1) (P : Addr → Prop) [DecidablePred P] (h : ∀ c, P c → H c = none ∧ F1 c = none) : Gr mu F H (fun c => if P c then H1 c else F1 c) H1 ∧ Same F1 (fun c => if P c then H1 c else F1 c) := by
  have s : Same F1 (fun c => if P c then H1 c else F1 c) := fun c o e => by
    by_cases p : P c
    · rw [(h c p).2] at e; cases e
    · simp only [p, if_false]; exact e
  refine ⟨⟨fun c o e => s c o (g.ff c o e), fun c o e => ?_, fun c o e => ?_, g.fr, g.th⟩, s⟩
  · by_cases p : P c
    · simp only [p, if_true] at e; exact e
    · simp only [p, if_false] at e; exact g.fh c o e
  · by_cases p : P c
    · exact .inr (h c p).1
    · simp only [p, if_false] at e; exact g.nw c o e
/-! ### draws -/
def sp_L_mixed : Sp := fun vs H Q _ => ∃ c k : Int, vs = [.int c, .int k] ∧ 0 ≤ k ∧ k < 1000 ∧ ∀ n : Int, 0 ≤ n → n < 2147483587 → Q (.int n) H
theorem ok_L_mixed (t : Tx K mg) : FnOk P w K mg base CX0 1 t.a_L_mixed t.fd_L_mixed ["_law_cell", "_law_k"] sp_L_mixed := by
  refine t.F_L_mixed.ok sc_L_mixed (fun vs H Q E h => ?_) (fun cdv A outer s H vs Q E hr h => ?_)
  · obtain ⟨c, k, rfl, _⟩ := h
    rfl
  · obtain ⟨c, k, rfl, k0, k1, q⟩ := h
    refine ⟨_, (pss_cons (ps_set (i := 2) sc_L_mixed.nd rfl (by first | exact Or.inl rfl | exact Or.inr rfl) (pe_op op_mod (pv 0) (pe_op op_pow pe_int pe_int)))
      (pss_cons (ps_set (i := 3) sc_L_mixed.nd rfl (by first | exact Or.inl rfl | exact Or.inr rfl) (pe_op op_mod (pe_op op_mul (pe_op op_add (pe_op op_add (pe_op op_add (pe_op op_mul (pv 2) (pv 2)) (pe_op op_mul pe_int (pv 2))) (pe_op op_mul pe_int (pv 1))) pe_int) pe_int) pe_int))
      (pss_cons (ps_set (i := 3) sc_L_mixed.nd rfl (by first | exact Or.inl rfl | exact Or.inr rfl) (pe_op op_mod (pe_op op_add (pe_op op_mul (pv 3) (pv 3)) pe_int) pe_int))
      (pss_one (ps_ret (pe_op op_mod (pe_op op_mul (pv 3) (pe_op op_add (pv 3) pe_int)) pe_int)))))), ?_⟩
    have e15 : (10 : Int) ^ (15 : Int).toNat = 1000000000000000 := by decide
    refine ⟨_, rfl, _, _, rfl, rfl, ⟨by decide, by decide, by decide⟩, _, _, rfl, rfl, (by show (0 : Int) < 10 ^ (15 : Int).toNat; decide), ?_⟩
    rw [e15]
    have h0 : (0 : Int) ≤ c % 1000000000000000 := Int.emod_nonneg _ (by decide)
    have h1 : c % 1000000000000000 < 1000000000000000 := Int.emod_lt_of_pos _ (by decide)
    generalize c % 1000000000000000 = r at h0 h1
    refine ⟨_, rfl, _, rfl, _, _, rfl, rfl, .inl ⟨by omega, by omega⟩, _, rfl, _, _, rfl, rfl, .inl ⟨by decide, by decide⟩, _, _, rfl, rfl, _, rfl, _, _, rfl, rfl, .inl ⟨by decide, by decide⟩, _, _, rfl, rfl, _, _, rfl, rfl,
      _, _, rfl, rfl, .inr ⟨by decide, by decide⟩, _, _, rfl, rfl, (by show (0 : Int) < 2147483629; decide), ?_⟩
    have g0 := Int.emod_nonneg ((r * r + 3 * r + 7919 * k + 1) * 48271) (show (2147483629 : Int) ≠ 0 by decide)
    have g1 := Int.emod_lt_of_pos ((r * r + 3 * r + 7919 * k + 1) * 48271) (show (0 : Int) < 2147483629 by decide)
    generalize (r * r + 3 * r + 7919 * k + 1) * 48271 % 2147483629 = n at g0 g1
    refine ⟨_, rfl, _, rfl, _, _, rfl, rfl, .inl ⟨by omega, by omega⟩, _, _, rfl, rfl, _, _, rfl, rfl, (by show (0 : Int) < 2147483587; decide), ?_⟩
    have f0 := Int.emod_nonneg (n * n + 7) (show (2147483587 : Int) ≠ 0 by decide)
    have f1 := Int.emod_lt_of_pos (n * n + 7) (show (0 : Int) < 2147483587 by decide)
    generalize (n * n + 7) % 2147483587 = m at f0 f1
    refine ⟨_, rfl, _, rfl, _, _, rfl, rfl, _, _, rfl, rfl, .inl ⟨by omega, by omega⟩, _, _, rfl, rfl, (by show (0 : Int) < 2147483563; decide), ?_⟩
    exact q _ (Int.emod_nonneg _ (by decide)) (by have := Int.emod_lt_of_pos (m * (m + 69621)) (show (0 : Int) < 2147483563 by decide); omega)
/-- the purse: two numbers that aren't below 0 -/
def PurseO (a b : Int) : HO := .lst [.int a, .int b]
def sp_L_purse (K : PySem.W.Frag) : Sp := fun vs H Q _ => ∃ (l : Addr) (ns : List Int), vs = [.ref l] ∧ SqL K H l (ns.map V.int) ∧ ns.length ≤ 63 ∧
  ∀ (a b : Int) (p : Addr) (H' : Hp), 0 ≤ a → 0 ≤ b → Same H H' → H p = none → H' p = some (PurseO a b) → Q (.ref p) H'
theorem ok_L_purse (t : Tx K mg) : FnOk P w K mg base CX0 2 t.a_L_purse t.fd_L_purse ["_law_script"] (sp_L_purse K) := by
  refine t.F_L_purse.ok sc_L_purse (fun vs H Q E h => ?_) (fun cdv A outer s H vs Q E hr h => ?_)
  · obtain ⟨l, ns, rfl, _⟩ := h
    rfl
  · obtain ⟨l, ns, rfl, hS, hn, q⟩ := h
    refine ⟨_, (pss_cons (ps_set (i := 1) sc_L_purse.nd rfl (by first | exact Or.inl rfl | exact Or.inr rfl) (pe_op op_cat (pe_slice sl_list (pv 0) po_none (po_some pe_int)) (pe_lst (pa_cons pe_int pa_nil))))
      (pss_cons (ps_set (i := 2) sc_L_purse.nd rfl (by first | exact Or.inl rfl | exact Or.inr rfl) pe_int)
      (pss_cons (ps_for PassesOwn.never rfl (pi_range1 (by rfl) t.n_range (pa_cons pe_int pa_nil)) (pg_name (i := 3) sc_L_purse.nd rfl (by first | exact Or.inl rfl | exact Or.inr rfl)) (pss_one (ps_set (i := 2) sc_L_purse.nd rfl (by first | exact Or.inl rfl | exact Or.inr rfl) (pe_op op_add (pe_op op_mul (pv 2) pe_int) (pe_call (ok_L_mixed t) (hr.mono (by decide)) (by rfl) t.m_L_mixed t.F_L_mixed.kp t.b_L_mixed .nil pass0 (pa_cons (pe_ix ix_list (pv 1) (pe_op op_mod (pv 3) (pe_callB (id := "len") call_lenQ (by rfl) t.n_len (by decide +kernel) (pa_cons (pv 1) pa_nil))) (fun _ _ => rfl)) (pa_cons (pv 3) pa_nil)))))))
      (pss_cons (ps_if (pt_cmpR op_ge (pe_ix ix_list (pv 1) pe_int (fun _ _ => rfl)) (pe_op op_pow pe_int pe_int) (nomark _)) (pss_one (ps_ret (pe_lst (pa_cons (pe_op op_fdivW (pe_ix ix_list (pv 1) pe_int (fun _ _ => rfl)) (pe_op op_pow pe_int pe_int)) (pa_cons (pv 2) pa_nil))))) pss_nil)
      (pss_one (ps_ret (pe_lst (pa_cons (pv 2) (pa_cons (pv 2) pa_nil))))))))), ?_⟩
    refine ⟨_, rfl, _, rfl, l, _, rfl, hS, fun p np => ?_⟩
    rw [cut_63 hn]
    have e0 : ([V.int 0] : List V) = [(0 : Int)].map V.int := rfl
    refine ⟨by show 1 ≤ sizeLine; decide, fun p2 np2 => ⟨p, p2, _, _, rfl, rfl, (by rw [upd_ne (ne_of_none upd_same np2)]; exact upd_same), upd_same, (by show _ + 1 ≤ _; rw [List.length_map]; exact Nat.le_trans (Nat.add_le_add_right hn 1) (by decide)), fun p3 np3 => ?_⟩⟩
    rw [e0, ← List.map_append]
    have s3 : Same H (upd (upd (upd H p (.lst (ns.map V.int))) p2 (.lst ([(0 : Int)].map V.int))) p3 (.lst ((ns ++ [0]).map V.int))) := sm_new (sm_new (sm_new (Same.refl H) np) np2) np3
    have hl : 0 < (ns ++ [0]).length := by simp
    generalize ec : ns ++ [0] = cs at s3 hl
    have h3 : (upd (upd (upd H p (.lst (ns.map V.int))) p2 (.lst ([(0 : Int)].map V.int))) p3 (.lst (cs.map V.int))) p3 = some (.lst (cs.map V.int)) := upd_same
    generalize upd (upd (upd H p (.lst (ns.map V.int))) p2 (.lst ([(0 : Int)].map V.int))) p3 (.lst (cs.map V.int)) = H3 at s3 h3
    refine ⟨150, rfl, by decide, by decide, for_range (lo := 0) (n := 150) (fun i σ H2 => ∃ (n : Int) (v : Option V), σ = [some (.ref l), some (.ref p3), some (.int n), v] ∧ H2 = H3 ∧ 0 ≤ n) ⟨1, none, rfl, rfl, by decide⟩ ?_ ?_⟩
    · rintro i σ H2 hi ⟨n, v, rfl, rfl, hn0⟩
      refine ⟨_, rfl, _, _, rfl, rfl, .inr ⟨by decide, by decide⟩, ?_⟩
      have hm := Int.emod_nonneg (0 + (i : Int)) (show ((cs.map V.int).length : Int) ≠ 0 by rw [List.length_map]; omega)
      have hm1 := Int.emod_lt_of_pos (0 + (i : Int)) (show (0 : Int) < ((cs.map V.int).length : Int) by rw [List.length_map]; omega)
      have hj : (((0 + (i : Int)) % ((cs.map V.int).length : Int)).toNat : Int) = (0 + (i : Int)) % ((cs.map V.int).length : Int) := Int.toNat_of_nonneg hm
      have hj1 : ((0 + (i : Int)) % ((cs.map V.int).length : Int)).toNat < cs.length := by rw [List.length_map] at hm1 ⊢; omega
      refine ⟨_, rfl, _, rfl, _, rfl, p3, _, rfl, .inl (SqL.of h3), _, _, rfl, rfl, (by rw [List.length_map]; omega), p3, _, _, _, rfl, rfl, SqL.of h3, at_of hj.symm (by rw [List.getElem?_map, List.getElem?_eq_getElem hj1]; rfl), ?_⟩
      refine ⟨_, rfl, _, _, rfl, by omega, by omega, fun m m0 m1 => ⟨_, _, rfl, rfl, ?_⟩⟩
      exact ⟨_, _, rfl, rfl, by omega⟩
    · rintro σ H2 ⟨n, v, rfl, rfl, hn0⟩
      have h0 : (cs.map V.int)[0]? = some (.int (cs[0])) := by rw [List.getElem?_map, List.getElem?_eq_getElem hl]; rfl
      refine ⟨_, rfl, p3, _, _, _, rfl, rfl, SqL.of h3, atI_nat (j := 0) h0, _, _, rfl, rfl, ⟨by decide, by decide, by decide⟩, _, _, rfl, rfl, _, rfl, ?_⟩
      refine ite2 (fun c => ?_) (fun c => ?_)
      · refine ⟨_, rfl, p3, _, _, _, rfl, rfl, SqL.of h3, atI_nat (j := 0) h0, _, _, rfl, rfl, ⟨by decide, by decide, by decide⟩, _, _, rfl, rfl, ⟨by decide, by decide⟩, _, rfl, by show 2 ≤ sizeLine; decide, fun q0 nq => ?_⟩
        have c : (10 : Int) ^ (18 : Int).toNat ≤ cs[0] := of_decide_eq_true c
        have e18 : (10 : Int) ^ (18 : Int).toNat = 1000000000000000000 := by decide
        rw [e18] at c
        exact q _ _ q0 _ (Int.ediv_nonneg (by omega) (by rw [e18]; decide)) hn0 (sm_new s3 nq) (s3.free nq) upd_same
      · refine ⟨_, rfl, _, rfl, by show 2 ≤ sizeLine; decide, fun q0 nq => ?_⟩
        exact q _ _ q0 _ hn0 hn0 (sm_new s3 nq) (s3.free nq) upd_same
def sp_L_draw : Sp := fun vs H Q _ => ∃ (p : Addr) (a b n : Int), vs = [.ref p, .int n] ∧ H p = some (PurseO a b) ∧ 0 ≤ a ∧ 0 ≤ b ∧ 0 < n ∧ n < 1267650600228229401496703205376 ∧
  ∀ d a' b' : Int, 0 ≤ d → d < n → 0 ≤ a' → 0 ≤ b' → Q (.int d) (upd H p (PurseO a' b'))
theorem ok_L_draw (t : Tx K mg) : FnOk P w K mg base CX0 1 t.a_L_draw t.fd_L_draw ["_law_purse_here", "_law_out_of"] sp_L_draw := by
  refine t.F_L_draw.ok sc_L_draw (fun vs H Q E h => ?_) (fun cdv A outer s H vs Q E hr h => ?_)
  · obtain ⟨p, a, b, n, rfl, _⟩ := h
    rfl
  · obtain ⟨p, a, b, n, rfl, hp, ha, hb, n0, n1, q⟩ := h
    refine ⟨_, (pss_cons (ps_if (pt_cmpR op_eq (pe_ix ix_list (pv 0) pe_int (fun _ _ => rfl)) pe_int (nomark _)) (pss_one (ps_asg (pe_ix ix_list (pv 0) pe_int (fun _ _ => rfl)) (pg_sub (pv 0) pe_int set_list))) pss_nil)
      (pss_cons (ps_set (i := 2) sc_L_draw.nd rfl (by first | exact Or.inl rfl | exact Or.inr rfl) (pe_op op_mod (pe_ix ix_list (pv 0) pe_int (fun _ _ => rfl)) (pv 1)))
      (pss_cons (ps_asg (pe_op op_fdivW (pe_ix ix_list (pv 0) pe_int (fun _ _ => rfl)) (pv 1)) (pg_sub (pv 0) pe_int set_list))
      (pss_one (ps_ret (pv 2)))))), ?_⟩
    refine ⟨_, rfl, p, _, _, _, rfl, rfl, SqL.of hp, atI_nat (j := 0) rfl, rfl, _, rfl, ?_⟩
    refine ite2 (fun c => ?_) (fun c => ?_)
    · refine ⟨_, rfl, p, _, _, _, rfl, rfl, SqL.of hp, atI_nat (j := 1) rfl, _, rfl, p, _, _, 0, rfl, rfl, hp, rfl, ?_⟩
      refine ⟨_, rfl, p, _, _, _, rfl, rfl, SqL.of upd_same, atI_nat (j := 0) rfl, _, rfl, _, _, rfl, rfl, n0, ?_⟩
      refine ⟨_, rfl, p, _, _, _, rfl, rfl, SqL.of upd_same, atI_nat (j := 0) rfl, _, rfl, _, _, rfl, rfl, wide_div n0 (b := 100) (by have e : (2 : Nat) ^ 100 = 1267650600228229401496703205376 := rfl; rw [e]; omega) (by decide) (by decide), _, rfl, p, _, _, 0, rfl, rfl, upd_same, rfl, _, rfl, ?_⟩
      rw [upd_upd]
      exact q _ _ _ (Int.emod_nonneg _ (by omega)) (Int.emod_lt_of_pos _ n0) (Int.ediv_nonneg hb (by omega)) hb
    · refine ⟨_, rfl, p, _, _, _, rfl, rfl, SqL.of hp, atI_nat (j := 0) rfl, _, rfl, _, _, rfl, rfl, n0, ?_⟩
      refine ⟨_, rfl, p, _, _, _, rfl, rfl, SqL.of hp, atI_nat (j := 0) rfl, _, rfl, _, _, rfl, rfl, wide_div n0 (b := 100) (by have e : (2 : Nat) ^ 100 = 1267650600228229401496703205376 := rfl; rw [e]; omega) (by decide) (by decide), _, rfl, p, _, _, 0, rfl, rfl, hp, rfl, _, rfl, ?_⟩
      exact q _ _ _ (Int.emod_nonneg _ (by omega)) (Int.emod_lt_of_pos _ n0) (Int.ediv_nonneg ha (by omega)) hb
/-! ### machines that are machines -/
structure EOk (R S : Nat) (e : Ent) : Prop where
  ok : ∀ p w r, e = .go p w r → (0 ≤ p ∧ p < S) ∧ (w = -1 ∨ w = 1) ∧ 0 ≤ r ∧ r < R
structure MOk (M : Mach) (R S : Nat) : Prop where
  r1 : 1 ≤ R
  r4 : R ≤ 4
  s2 : 2 ≤ S
  s4 : S ≤ 4
  len : M.length = R
  row : ∀ r ∈ M, r.length = S
  ent : ∀ r ∈ M, ∀ e ∈ r, EOk R S e
def sp_is_entry : Sp := fun vs H Q _ => ∃ (F : Hp) (v : V) (e : Ent) (R S : Nat), vs = [v, .int R, .int S] ∧ Same F H ∧ Is F v e ∧ EOk R S e ∧ ∀ H', Gr mu0 F H F H' → Q (.bl true) H'
theorem ok_is_entry (t : Tx K mg) : FnOk P w K mg base CX0 1 t.a_is_entry t.fd_is_entry ["entry", "rows", "signs"] sp_is_entry := by
  refine t.F_is_entry.ok sc_is_entry (fun vs H Q E h => ?_) (fun cdv A outer s H vs Q E hr h => ?_)
  · obtain ⟨F, v, e, R, S, rfl, _⟩ := h
    rfl
  · obtain ⟨F, v, e, R, S, rfl, sF, hv, he, q⟩ := h
    refine ⟨_, (pss_cons (ps_if (pt_cmpR (op_eqD hr.units) (pv 0) (pe_tup pa_nil) (nomark _)) (pss_one (ps_ret pe_bl)) pss_nil)
      (pss_one (ps_ret (pe_and (pe_cmpR op_eq (pe_callB (id := "len") call_lenQ (by rfl) t.n_len (by decide +kernel) (pa_cons (pv 0) pa_nil)) pe_int (nomark _)) (pe_and (pe_chain op_le op_lt pe_int (pe_ix ix_tup (pv 0) pe_int (fun _ _ => rfl)) (pv 2)) (pe_and (pe_cmpR op_in_seq (pe_ix ix_tup (pv 0) pe_int (fun _ _ => rfl)) (pe_lst (pa_cons (pe_un un_neg pe_int) (pa_cons pe_int pa_nil))) (by rfl)) (pe_one (pe_chain op_le op_lt pe_int (pe_ix ix_tup (pv 0) pe_int (fun _ _ => rfl)) (pv 1))))))))), ?_⟩
    have g0 : Gr mu0 F H F H := Gr.refl sF
    refine ⟨_, rfl, by show 0 ≤ sizeLine; decide, fun p np => ?_⟩
    have g1 : Gr mu0 F H F (upd H p (.tup [])) := g0.own np
    refine eq_dat (a := e) (b := Ent.emp) (hv.up g1.fh) ⟨p, rfl, upd_same⟩ ?_
    refine ⟨_, rfl, ?_⟩
    refine ite2 (fun c => ?_) (fun c => ?_)
    · exact q _ g1
    · cases e with
      | emp => exact absurd (decide_eq_true rfl) c
      | go pu wa ro =>
        obtain ⟨a, rfl, ha⟩ := hv
        obtain ⟨⟨o1, o2⟩, o3, o4, o5⟩ := he.ok _ _ _ rfl
        have h1 := g1.fh _ _ ha
        refine ⟨_, rfl, a, _, rfl, .inr (SqT.of h1), rfl, _, rfl, ifT rfl ?_⟩
        refine ⟨_, rfl, a, _, _, _, rfl, rfl, SqT.of h1, atI_nat (j := 0) rfl, _, _, rfl, rfl, _, rfl, ifT (decide_eq_true o1) ⟨_, rfl, _, _, rfl, rfl, _, rfl, ifT (decide_eq_true o2) ?_⟩⟩
        refine ⟨_, rfl, a, _, _, _, rfl, rfl, SqT.of h1, atI_nat (j := 1) rfl, _, rfl, two_le, fun l nl => ?_⟩
        have g2 := g1.own (o := .lst [.int (-1), .int 1]) nl
        have h2 := g2.fh _ _ ha
        refine ⟨l, _, rfl, .inl (SqL.of upd_same), rfl, rfl, _, rfl, ifT ?_ ?_⟩
        · rcases o3 with rfl | rfl <;> rfl
        · refine ⟨_, rfl, a, _, _, _, rfl, rfl, SqT.of h2, atI_nat (j := 2) rfl, _, _, rfl, rfl, _, rfl, ifT (decide_eq_true o4) ⟨_, rfl, _, _, rfl, rfl, ?_⟩⟩
          show Q (.bl (decide (ro < (R : Int)))) _
          rw [decide_eq_true o5]
          exact q _ g2
/-- all bools of a list of trues -/
theorem all_rep (n : Nat) : (List.replicate n true).all id = true := by simp
theorem map_rep (n : Nat) : (List.replicate n true).map V.bl = List.replicate n (V.bl true) := by simp
theorem rep_snoc (n : Nat) : List.replicate n (V.bl true) ++ [V.bl true] = List.replicate (n + 1) (V.bl true) := by
  rw [← List.replicate_succ']
def sp_is_machine : Sp := fun vs H Q _ => ∃ (F : Hp) (v : V) (M : Mach) (R S : Nat), vs = [v] ∧ Same F H ∧ Is F v M ∧ MOk M R S ∧ ∀ H', Gr mu0 F H F H' → Q (.bl true) H'
theorem ok_is_machine (t : Tx K mg) : FnOk P w K mg base CX0 2 t.a_is_machine t.fd_is_machine ["machine"] sp_is_machine := by
  refine t.F_is_machine.ok sc_is_machine (fun vs H Q E h => ?_) (fun cdv A outer s H vs Q E hr h => ?_)
  · obtain ⟨F, v, M, R, S, rfl, _⟩ := h
    rfl
  · obtain ⟨F, v, M, R, S, rfl, sF, hv, hM, q⟩ := h
    refine ⟨_, (pss_cons (ps_set (i := 1) sc_is_machine.nd rfl (by first | exact Or.inl rfl | exact Or.inr rfl) (pe_callB (id := "len") call_lenQ (by rfl) t.n_len (by decide +kernel) (pa_cons (pv 0) pa_nil)))
      (pss_cons (ps_if (pt_not (pt_chain op_le op_le pe_int (pv 1) (pe_glob (v := .int 4) (by rfl) t.m_MOST_ROWS_machines ⟨_, rfl⟩))) (pss_one (ps_ret pe_bl)) pss_nil)
      (pss_cons (ps_set (i := 2) sc_is_machine.nd rfl (by first | exact Or.inl rfl | exact Or.inr rfl) (pe_callB (id := "len") call_lenQ (by rfl) t.n_len (by decide +kernel) (pa_cons (pe_ix ix_list (pv 0) pe_int (fun _ _ => rfl)) pa_nil)))
      (pss_cons (ps_if (PW.pt (pw_or (pt_not (pt_chain op_le op_le pe_int (pv 2) (pe_glob (v := .int 4) (by rfl) t.m_MOST_SIGNS ⟨_, rfl⟩))) (pw_or1 (pt_not (pt_val (pe_callB (id := "all") (cr_all rfl) (by rfl) t.n_all (by decide +kernel) (pa_cons (pe_lc (own := [("row", 3)]) (g := gName 3) (tt := tYes) rfl sc_is_machine.nd (pi_list (pv 0)) (blkOk_by (N := N_is_machine) (sc := defScope s_is_machine) (by decide +kernel)) (fun _ _ _ _ _ => (pg_name (i := 3) sc_is_machine.nd rfl (by first | exact Or.inl rfl | exact Or.inr rfl))) (fun _ _ _ _ _ => pts_nil) (fun _ _ _ _ _ => (pe_cmpR op_eq (pe_callB (id := "len") (crK (K := K) (r := rLenQ) rfl call_lenQ) (by rfl) t.n_len (by decide +kernel) (pa_cons (pv 3) pa_nil)) (pv 2) (nomark _)))) pa_nil))))))) (pss_one (ps_ret pe_bl)) pss_nil)
      (pss_one (ps_ret (pe_callB (id := "all") (cr_all rfl) (by rfl) t.n_all (by decide +kernel) (pa_cons (pe_lc (own := [("row", 3)]) (g := gName 3) (tt := tYes) rfl sc_is_machine.nd (pi_list (pv 0)) (blkOk_by (N := N_is_machine) (sc := defScope s_is_machine) (by decide +kernel)) (fun _ _ _ _ _ => (pg_name (i := 3) sc_is_machine.nd rfl (by first | exact Or.inl rfl | exact Or.inr rfl))) (fun _ _ _ _ _ => pts_nil) (fun _ _ _ _ _ => (pe_callB (id := "all") (crK (K := K) (r := rAll) rfl (cr_all rfl)) (by rfl) t.n_all (by decide +kernel) (pa_cons (pe_lc (own := [("entry", 4)]) (g := gName 4) (tt := tYes) rfl sc_is_machine.nd (pi_listK (K := K) rfl (pv 3)) (blkOk_by (N := N_is_machine) (sc := { kind := PySem.ScopeKind.function, names := [(PySem.Str.ofString ".0", PySem.NameKind.local), (PySem.Str.ofString "row", PySem.NameKind.local), (PySem.Str.ofString "all", PySem.NameKind.globalImplicit), (PySem.Str.ofString "rows", PySem.NameKind.cell), (PySem.Str.ofString "signs", PySem.NameKind.cell)], isGenerator := false, isCoroutine := false }) (by decide +kernel)) (fun _ _ _ _ _ => (pg_name (i := 4) sc_is_machine.nd rfl (by first | exact Or.inl rfl | exact Or.inr rfl))) (fun _ _ _ _ _ => pts_nil) (fun _ _ _ _ _ => (pe_call (ok_is_entry t) (hr.mono (by decide)) (by rfl) t.m_is_entry t.F_is_entry.kp t.b_is_entry .nil pass0 (pa_cons (pv 4) (pa_cons (pv 1) (pa_cons (pv 2) pa_nil)))))) pa_nil)))) pa_nil)))))))), ?_⟩
    have g0 : Gr mu0 F H F H := Gr.refl sF
    have r1 := hM.r1
    have r4 := hM.r4
    have s2 := hM.s2
    have s4 := hM.s4
    obtain ⟨a, rs, rfl, ha, hrs⟩ := hv
    have lrs : rs.length = R := hrs.1.trans hM.len
    have h0 := sF _ _ ha
    have l0 : 0 < rs.length := by omega
    have hx0 : rs[0]? = some rs[0] := List.getElem?_eq_getElem l0
    obtain ⟨row0, hM0, hr0⟩ := hrs.get' hx0
    obtain ⟨a0, es0, e0, ha0, hes0⟩ := hr0
    have ls0 : es0.length = S := hes0.1.trans (hM.row _ (List.mem_of_getElem? hM0))
    have hb0 := sF _ _ ha0
    -- rows = len(machine); signs = len(machine[0])
    refine ⟨_, rfl, a, rs, rfl, .inl (SqL.of h0), _, rfl, _, _, rfl, rfl, _, rfl, ifT (decide_eq_true (by omega)) ⟨_, _, rfl, rfl, _, rfl, ?_⟩⟩
    refine ifF (by rw [decide_eq_true (show (rs.length : Int) ≤ 4 by omega)]; rfl) ?_
    refine ⟨_, rfl, a, rs, _, _, rfl, rfl, SqL.of h0, atI_nat (j := 0) hx0, ?_⟩
    rw [e0]
    refine ⟨a0, es0, rfl, .inl (SqL.of hb0), _, rfl, _, _, rfl, rfl, _, rfl, ifT (decide_eq_true (by omega)) ⟨_, _, rfl, rfl, _, rfl, ?_⟩⟩
    refine ifF (by rw [decide_eq_true (show (es0.length : Int) ≤ 4 by omega)]; rfl) ?_
    -- all([len(row) == signs for row in machine])
    refine ⟨_, rfl, a, rfl, ⟨_, SqL.of h0⟩, fun D nD => lc_list (K := K) (a := a) (xs := rs) (fun i G => Gr mu0 F H F G ∧ G D = some (.lst (List.replicate i (V.bl true)))) ⟨g0.own nD, upd_same⟩ (fun i G _ p => SqL.of (p.1.fh _ _ ha)) ?_ ?_⟩
    · rintro i x G hi ⟨gG, hD⟩
      obtain ⟨row, hMi, b, es, rfl, hb, hes⟩ := hrs.get' hi
      have ls : es.length = S := hes.1.trans (hM.row _ (List.mem_of_getElem? hMi))
      have il : i < rs.length := (List.getElem?_eq_some_iff.mp hi).1
      refine ⟨rfl, ?_⟩
      refine yes ⟨_, rfl, b, es, rfl, .inl (SqL.of (gG.fh _ _ hb)), _, rfl, rfl, _, hD, by rw [List.length_replicate]; exact lt_size (by omega), ?_⟩
      have e : (V.bl (decide (V.int (es.length : Int) = V.int (es0.length : Int)))) = V.bl true := by rw [ls, ls0]; simp
      rw [e, rep_snoc]
      exact ⟨gG.set (ne_of_none' sF nD) (.inl nD), upd_same⟩
    · rintro G ⟨gG, hD⟩
      refine ⟨D, List.replicate rs.length true, rfl, SqL.of (by rw [map_rep]; exact hD), _, rfl, ifF (by rw [all_rep]; rfl) ?_⟩
      -- all([all([is_entry(entry, rows, signs) for entry in row]) for row in machine])
      refine ⟨_, rfl, a, rfl, ⟨_, SqL.of (gG.fh _ _ ha)⟩, fun D1 nD1 => lc_list (K := K) (a := a) (xs := rs) (fun i G1 => Gr mu0 F H F G1 ∧ H D1 = none ∧ G1 D1 = some (.lst (List.replicate i (V.bl true)))) ⟨gG.own nD1, gG.th _ nD1, upd_same⟩ (fun i G1 _ p => SqL.of (p.1.fh _ _ ha)) ?_ ?_⟩
      · rintro i x G1 hi ⟨gG1, nH, hD1⟩
        obtain ⟨row, hMi, b, es, rfl, hb, hes⟩ := hrs.get' hi
        have ls : es.length = S := hes.1.trans (hM.row _ (List.mem_of_getElem? hMi))
        have il : i < rs.length := (List.getElem?_eq_some_iff.mp hi).1
        refine ⟨rfl, yes ⟨_, rfl, b, rfl, ⟨_, SqL.of (gG1.fh _ _ hb)⟩, fun D2 nD2 => lc_list (K := K) (a := b) (xs := es) (fun j G2 => Gr mu0 F H F G2 ∧ H D2 = none ∧ D1 ≠ D2 ∧ G2 D1 = some (.lst (List.replicate i (V.bl true))) ∧ G2 D2 = some (.lst (List.replicate j (V.bl true))))
          ⟨gG1.own nD2, gG1.th _ nD2, ne_of_none hD1 nD2, by rw [upd_ne (ne_of_none hD1 nD2)]; exact hD1, upd_same⟩ (fun j G2 _ p => SqL.of (p.1.fh _ _ hb)) ?_ ?_⟩⟩
        · rintro j y G2 hj ⟨gG2, nH2, d12, h1, h2⟩
          obtain ⟨e, hej, hye⟩ := hes.get' hj
          have jl : j < es.length := (List.getElem?_eq_some_iff.mp hj).1
          refine ⟨rfl, yes ⟨_, rfl, _, rfl, _, rfl, F, y, e, R, S, ?_, gG2.fh, hye, hM.ent _ (List.mem_of_getElem? hMi) _ (List.mem_of_getElem? hej), fun G3 g3 => ?_⟩⟩
          · rw [lrs, ls0]
            rfl
          · have gH3 := gG2.trans g3
            refine ⟨_, g3.fr _ _ h2 (fun z => z), by rw [List.length_replicate]; exact lt_size (by omega), ?_⟩
            rw [rep_snoc]
            exact ⟨gH3.set (sF.free nH2) (.inl nH2), nH2, d12, by rw [upd_ne d12]; exact g3.fr _ _ h1 (fun z => z), upd_same⟩
        · rintro G2 ⟨gG2, nH2, d12, h1, h2⟩
          refine ⟨D2, List.replicate es.length true, rfl, SqL.of (by rw [map_rep]; exact h2), ?_⟩
          refine ⟨_, h1, by rw [List.length_replicate]; exact lt_size (by omega), ?_⟩
          rw [all_rep, rep_snoc]
          exact ⟨gG2.set (sF.free nH) (.inl nH), nH, upd_same⟩
      · rintro G1 ⟨gG1, nH, hD1⟩
        refine ⟨D1, List.replicate rs.length true, rfl, SqL.of (by rw [map_rep]; exact hD1), ?_⟩
        rw [all_rep]
        exact q _ gG1
def sp_must_machine : Sp := fun vs H Q _ => ∃ (F : Hp) (v : V) (M : Mach) (R S : Nat), vs = [v] ∧ Same F H ∧ Is F v M ∧ MOk M R S ∧ ∀ H', Gr mu0 F H F H' → Q .non H'
theorem ok_must_machine (t : Tx K mg) : FnOk P w K mg base CX0 3 t.a_must_machine t.fd_must_machine ["machine"] sp_must_machine := by
  refine t.F_must_machine.ok sc_must_machine (fun vs H Q E h => ?_) (fun cdv A outer s H vs Q E hr h => ?_)
  · obtain ⟨F, v, M, R, S, rfl, _⟩ := h
    rfl
  · obtain ⟨F, v, M, R, S, rfl, sF, hv, hM, q⟩ := h
    refine ⟨_, (pss_one (ps_if (pt_not (pt_val (pe_call (ok_is_machine t) (hr.mono (by decide)) (by rfl) t.m_is_machine t.F_is_machine.kp t.b_is_machine .nil pass0 (pa_cons (pv 0) pa_nil)))) (pss_one ps_never) pss_nil)), ?_⟩
    exact ⟨_, rfl, F, _, M, R, S, rfl, sF, hv, hM, fun H' g => ⟨_, rfl, ifF rfl (q _ g)⟩⟩
/-! ### a tuple the other way round -/
theorem revAdj (n : Nat) : Builtin.Slice.sliceAdjust none none (-1) (n : Int) = ((n : Int) - 1, -1) := rfl
theorem revPlaces (n : Nat) : Builtin.Slice.slicePlaces ((n : Int) - 1) (-1) (-1) = n := by
  unfold Builtin.Slice.slicePlaces
  rw [if_neg (by decide)]
  by_cases h : (n : Int) - 1 > -1
  · rw [if_pos h, show (- -1 : Int) = 1 from rfl, Int.ediv_one]; omega
  · rw [if_neg h]; omega
theorem fm_all {α β : Type} {f : α → Option β} {g : α → β} : ∀ {l : List α}, (∀ x ∈ l, f x = some (g x)) → l.filterMap f = l.map g
  | [], _ => rfl
  | x :: l, h => by
    rw [List.filterMap_cons, h x (List.mem_cons_self ..)]
    show g x :: l.filterMap f = _
    rw [fm_all fun y hy => h y (List.mem_cons_of_mem _ hy)]; rfl
theorem revPick (zs : List Value) : ((List.range zs.length).filterMap fun (k : Nat) => zs.toArray[((zs.length : Int) - 1 + (k : Int) * -1).toNat]?) = zs.reverse := by
  refine List.ext_getElem? fun i => ?_
  have e : ∀ k ∈ List.range zs.length, zs.toArray[((zs.length : Int) - 1 + (k : Int) * -1).toNat]? = some ((zs.reverse[k]?).getD .none) := fun k hk => by
    have hk := List.mem_range.mp hk
    rw [List.getElem?_toArray, List.getElem?_reverse hk, show ((zs.length : Int) - 1 + (k : Int) * -1).toNat = zs.length - 1 - k by omega, List.getElem?_eq_getElem (by omega)]
    rfl
  rw [fm_all e, List.getElem?_map]
  by_cases hi : i < zs.length
  · rw [List.getElem?_range hi, List.getElem?_reverse hi, List.getElem?_eq_getElem (by omega)]
    show some ((zs.reverse[i]?).getD .none) = _
    rw [List.getElem?_reverse hi, List.getElem?_eq_getElem (by omega)]
    rfl
  · rw [List.getElem?_eq_none (by rw [List.length_range]; omega), List.getElem?_eq_none (by rw [List.length_reverse]; omega)]
    rfl
section
open PySem.Spec PyProof.Rows HT
variable {prog : Program} {w : World} {A : Around} {E : Value → Shared → Prop} {s : Shared}
theorem revApplied {sl : Addr} {u : Tok} {n : Nat} {Q : Int × Int × Nat → Shared → Prop} (hs : s.heap.IsSliceOf sl .none .none (.int (-1) u)) (h : Q ((n : Int) - 1, -1, n) s) :
    wpAny (model prog w) A (Builtin.Slice.sliceApplied (.ref sl) (pure (n : Int))) Q E s := by
  obtain ⟨ob, k1, k2, k3⟩ := id hs
  unfold Builtin.Slice.sliceApplied Builtin.Slice.sliceFields
  refine wpAny_bind (wpAny_bind (wpAny_field k1 k3 (x := .none) rfl (wpAny_bind (wpAny_field k1 k3 (x := .none) rfl (wpAny_bind (wpAny_field k1 k3 (x := .int (-1) u) rfl (wpAny_pure ?_)))))))
  refine wpAny_bind (slicePart_int ?_)
  show wpAny _ _ (if ((-1 : Int) == 0) = true then _ else _) _ _ s
  rw [if_neg (by decide)]
  refine wpAny_bind (slicePart_none (wpAny_bind (slicePart_none (wpAny_bind (wpAny_pure ?_)))))
  show wpAny _ _ (match Builtin.Slice.sliceAdjust none none (-1) (n : Int) with | (lo, hi) => pure (lo, (-1 : Int), Builtin.Slice.slicePlaces lo hi (-1))) _ _ s
  rw [revAdj]
  show wpAny _ _ (pure ((n : Int) - 1, (-1 : Int), Builtin.Slice.slicePlaces ((n : Int) - 1) (-1) (-1))) _ _ s
  rw [revPlaces]
  exact wpAny_pure h
theorem revItem {t sl : Addr} {zs : List Value} {u : Tok} {Q : Value → Shared → Prop} (ht : IsTup s.heap t zs.toArray) (hs : s.heap.IsSliceOf sl .none .none (.int (-1) u))
    (h : Q (.ref s.heap.objs.size) { s with heap := s.heap.push { cls := .type "tuple", data := .seq zs.reverse.toArray } }) (hz : zs.length ≤ sizeLine) : wpAny (model prog w) A (getItem (.ref t) (.ref sl)) Q E s := by
  have fits : sizeOk (.seq zs.reverse.toArray) := by
    show zs.reverse.toArray.size ≤ sizeLine
    rw [List.size_toArray, List.length_reverse]; exact hz
  obtain ⟨ob, k1, k2, k3⟩ := id hs
  unfold getItem
  try with_reducible refine wpAny_holding ?_
  first | refine wpAny_bind (wpAny_pure ?_) | skip
  refine wpAny_bind (wpAny_sequenceKey ht.typeIs (by decide) (wpAny_bind (wpAny_callSpecial?_slot (name := Str.ofString "__getitem__") ht.typeIs PyProof.Rows.slot_tuple_getitem
    (wpAny_call_entry PyProof.Rows.slot_tuple_getitem ht.typeIs entry_tuple_getitem ?_ (args_tuple_getitem _ _)))))
  show wpAny _ _ (Builtin.Tuple.tupleItemsOf (.ref t) >>= _) _ _ s
  refine wpAny_bind (tupleItemsOf_ ht (wpAny_bind (wpAny_typeOf (v := .ref sl) ⟨ob, k1, k2⟩ ?_)))
  rw [if_pos (by decide)]
  refine wpAny_bind (revApplied (n := zs.toArray.size) hs ?_)
  have off : ¬ (((zs.toArray.size : Int) - 1 == 0 && (-1 : Int) == 1 && zs.toArray.size == zs.toArray.size) = true) := by
    rw [show ((-1 : Int) == 1) = false from rfl, Bool.and_false, Bool.false_and]
    exact Bool.false_ne_true
  show wpAny _ _ (if ((zs.toArray.size : Int) - 1 == 0 && (-1 : Int) == 1 && zs.toArray.size == zs.toArray.size) = true then _ else _) _ _ s
  rw [if_neg off]
  rw [List.size_toArray, revPick]
  first
    | exact wpAny_bind (m := Builtin.Tuple.tupleExact _) (wpAny_newObj_type (wpAny_pure ⟨_, rfl, wpAny_pure h⟩) fits)
    | exact wpAny_bind (m := Builtin.Tuple.tupleExact _) (wpAny_newObj_type (wpAny_bind (wpAny_pure (wpAny_pure ⟨_, rfl, wpAny_pure h⟩))) fits)
    | exact wpAny_bind (wpAny_bind (m := Builtin.Tuple.tupleExact _) (wpAny_newObj_type (wpAny_pure (wpAny_pure ⟨_, rfl, wpAny_pure h⟩)) fits))
    | exact wpAny_bind (wpAny_bind (m := Builtin.Tuple.tupleExact _) (wpAny_newObj_type (wpAny_pure ⟨_, rfl, wpAny_pure h⟩) fits))
end
section
open PySem.Spec PyProof.Rows
variable {X : Cx}
def tRevT (K : PySem.W.Frag) (te : TE) : TE := fun σ H Q => te σ H fun x G => ∃ a xs, x = .ref a ∧ SqT K G a xs ∧ ∀ p, G p = none → Q (.ref p) (upd G p (.tup xs.reverse))
theorem pe_revT {e : PySem.Expr} {te : TE} {k : Nat} {p1 p2 p3 pos : Pos} (he : PE X e te) : PE X (.Subscript e (.Slice none none (some (.UnaryOp .USub (.Constant (.int 1) k p1) p2)) p3) pos) (tRevT X.K te) := by
  refine ⟨fun pins s σ H Q I h => Subscript_ (thn (he.run pins s σ H _ I h) fun v s1 ⟨x, G, J, r, q⟩ => ?_)⟩
  obtain ⟨a, xs, ex, hx, q⟩ := q
  subst ex
  cases r
  have step : PO X (some (.UnaryOp .USub (.Constant (.int 1) k p1) p2)) (tPart (tUn (rU fun i => .int (-i)) (tC (.int 1)))) := po_some (pe_un un_neg pe_int)
  refine wpAny_Slice (thn (po_none.run pins s1 σ G (fun o G' => o = none ∧ G' = G) J ⟨rfl, rfl⟩) fun u1 s2 ⟨o1, G1, J1, i1, e1, f1⟩ => ?_)
  subst e1 f1
  refine thn (po_none.run pins s2 σ G1 (fun o G' => o = none ∧ G' = G1) J1 ⟨rfl, rfl⟩) fun u2 s3 ⟨o2, G2, J2, i2, e2, f2⟩ => ?_
  subst e2 f2
  refine thn (step.run pins s3 σ G2 (fun o G' => o = some (-1) ∧ G' = G2) J2 ⟨1, rfl, -1, rfl, rfl, rfl⟩) fun u3 s4 ⟨o3, G3, J3, i3, e3, f3⟩ => ?_
  subst e3 f3
  cases i1
  cases i2
  cases i3 with
  | int _ tk =>
    have J5 : Inv X pins σ G3 { s4 with heap := s4.heap.push { cls := .type "slice", data := .fields #[.none, .none, .int (-1) tk] } } := J3.kept (t' := s4.toks) fun b ob z => Heap.get?_push_of_some _ z
    obtain ⟨its, r, ht, hz⟩ := J5.tuple hx
    have hlen := r.length
    show wpAny (model X.prog X.w) X.A (subscriptTail e (.Slice none none (some (.UnaryOp .USub (.Constant (.int 1) k p1) p2)) p3) (.ref a) (.ref s4.heap.objs.size)) (EP X pins σ Q) X.xe { s4 with heap := s4.heap.push { cls := .type "slice", data := .fields #[.none, .none, .int (-1) tk] } }
    refine tail_any (ops := [.ref a, .ref s4.heap.objs.size]) ht.typeIs (PyProof.Rows.slot_tuple_getitem.lookup) ?_ (by with_unfolding_all rfl)
    refine revItem ht (Heap.IsSliceOf.new _ _ _ _) ?_ (by omega)
    refine ⟨.ref _, _, J5.laid (t' := s4.toks) (o := .tup xs.reverse) (fun b ob z => Heap.get?_push_of_some _ z) (Nat.le_refl _) ?_, rfl, q _ (J5.hok.fresh (Nat.le_refl _))⟩
    exact ⟨by rw [List.length_reverse]; exact hz, _, r.reverse, IsTup.new _ _⟩
end
/-! ### machines drawn: lists that may be changed yet -/
structure MaO (H F1 H1 : Hp) (m : Addr) (rs : List Addr) (ess : List (List V)) (M : Mach) : Prop where
  ow : Ow H F1 H1 m (.lst (rs.map V.ref))
  nd : rs.Nodup
  ne : m ∉ rs
  len : rs.length = ess.length
  rows : ∀ (i : Nat) r es, rs[i]? = some r → ess[i]? = some es → Ow H F1 H1 r (.lst es)
  dat : All2 (fun es row => IsAll F1 es row) ess M
section
variable {mu mu' : Addr → Prop} {H F F1 H1 F2 H2 : Hp} {m : Addr} {rs : List Addr} {ess : List (List V)} {M : Mach}
theorem MaO.row (x : MaO H F1 H1 m rs ess M) {r : Addr} (h : r ∈ rs) : ∃ es, Ow H F1 H1 r (.lst es) := by
  obtain ⟨i, hi⟩ := List.getElem?_of_mem h
  have l := (List.getElem?_eq_some_iff.mp hi).1
  exact ⟨ess[i]'(by rw [← x.len]; exact l), x.rows i r _ hi (List.getElem?_eq_getElem _)⟩
theorem MaO.gr (x : MaO H F1 H1 m rs ess M) (g : Gr mu F1 H1 F2 H2) (k : ∀ c, mu c → c ≠ m ∧ c ∉ rs) : MaO H F2 H2 m rs ess M where
  ow := x.ow.call g fun z => (k m z).1 rfl
  nd := x.nd
  ne := x.ne
  len := x.len
  rows := fun i r es h1 h2 => (x.rows i r es h1 h2).call g fun z => (k r z).2 (List.mem_of_getElem? h1)
  dat := x.dat.imp fun es row z => z.up g.ff
theorem MaO.off (x : MaO H F1 H1 m rs ess M) {p : Addr} {o : HO} (h : H p = some o) : ∀ c, muP p c → c ≠ m ∧ c ∉ rs := fun c e => by
  rw [show c = p from e]
  refine ⟨fun z => ?_, fun z => ?_⟩
  · rw [z, x.ow.n] at h; cases h
  · obtain ⟨es, w⟩ := x.row z
    rw [w.n] at h; cases h
theorem MaO.offn (x : MaO H F1 H1 m rs ess M) {p : Addr} (h : H1 p = none) : p ≠ m ∧ p ∉ rs := by
  refine ⟨fun z => ?_, fun z => ?_⟩
  · rw [z, x.ow.h] at h; cases h
  · obtain ⟨es, w⟩ := x.row z
    rw [w.h] at h; cases h
/-- a row that is done comes in -/
theorem MaO.add (x : MaO H F1 H1 m rs ess M) {r : Addr} {es : List V} {row : List Ent} (w : Ow H F1 H1 r (.lst es)) (k : r ≠ m ∧ r ∉ rs) (d : IsAll F1 es row) : MaO H F1 (upd H1 m (.lst ((rs ++ [r]).map V.ref))) m (rs ++ [r]) (ess ++ [es]) (M ++ [row]) where
  ow := x.ow.set
  nd := nd_snoc x.nd k.2
  ne := fun z => by
    rcases List.mem_append.mp z with z | z
    · exact x.ne z
    · exact k.1 (List.mem_singleton.mp z).symm
  len := by rw [List.length_append, List.length_append, x.len]; rfl
  rows := fun i r' es' h1 h2 => by
    by_cases l : i < rs.length
    · rw [List.getElem?_append_left l] at h1
      rw [List.getElem?_append_left (by rw [← x.len]; exact l)] at h2
      exact (x.rows i r' es' h1 h2).other fun z => x.ne (by rw [← z]; exact List.mem_of_getElem? h1)
    · rw [List.getElem?_append_right (by omega)] at h1
      rw [List.getElem?_append_right (by rw [← x.len]; omega), ← x.len] at h2
      cases e : i - rs.length with
      | zero =>
        rw [e] at h1 h2
        cases h1; cases h2
        exact w.other k.1
      | succ n => rw [e] at h1; cases h1
  dat := x.dat.app (All2.one d)
/-- an entry of it is changed -/
theorem MaO.put (x : MaO H F1 H1 m rs ess M) {i j : Nat} {r : Addr} {es : List V} {row : List Ent} {v : V} {e : Ent} (hr : rs[i]? = some r) (hes : ess[i]? = some es) (hrow : M[i]? = some row) (hv : Is F1 v e) :
    MaO H F1 (upd H1 r (.lst (es.set j v))) m rs (ess.set i (es.set j v)) (M.set i (row.set j e)) where
  ow := x.ow.other fun z => x.ne (by rw [z]; exact List.mem_of_getElem? hr)
  nd := x.nd
  ne := x.ne
  len := by rw [List.length_set]; exact x.len
  rows := fun i' r' es' h1 h2 => by
    by_cases e : i = i'
    · subst e
      rw [hr] at h1
      cases h1
      rw [List.getElem?_set_self (List.getElem?_eq_some_iff.mp hes).1] at h2
      cases h2
      exact (x.rows i r es hr hes).set
    · rw [List.getElem?_set_ne e] at h2
      exact (x.rows i' r' es' h1 h2).other fun z => e (nd_ix x.nd hr (by rw [← z]; exact h1))
  dat := x.dat.set ((x.dat.2 i es row hes hrow).set hv j) i
/-- it is changed no more -/
theorem MaO.frz (x : MaO H F1 H1 m rs ess M) (g : Gr mu F H F1 H1) : ∃ F2, Gr mu F H F2 H1 ∧ Same F1 F2 ∧ Is F2 (.ref m) M ∧ (∀ c, c ≠ m → c ∉ rs → F2 c = F1 c) ∧ ∀ c, c = m ∨ c ∈ rs → F2 c = H1 c := by
  have own : ∀ c, (c = m ∨ c ∈ rs) → H c = none ∧ F1 c = none ∧ ∃ o, H1 c = some o := fun c h => by
    rcases h with rfl | h
    · exact ⟨x.ow.n, x.ow.f, _, x.ow.h⟩
    · obtain ⟨es, w⟩ := x.row h
      exact ⟨w.n, w.f, _, w.h⟩
  have s : Same F1 (fun c => if c = m ∨ c ∈ rs then H1 c else F1 c) := fun c o h => by
    by_cases e : c = m ∨ c ∈ rs
    · rw [(own c e).2.1] at h; cases h
    · simp only [e, if_false]; exact h
  refine ⟨fun c => if c = m ∨ c ∈ rs then H1 c else F1 c, ⟨fun c o h => s c o (g.ff c o h), fun c o h => ?_, fun c o h => ?_, g.fr, g.th⟩, s, ⟨m, rs.map V.ref, rfl, ?_, by rw [List.length_map, x.len]; exact x.dat.1, fun i v row h1 h2 => ?_⟩, fun c h1 h2 => if_neg fun z => z.elim h1 h2, fun c h => if_pos h⟩
  · by_cases e : c = m ∨ c ∈ rs
    · simp only [e, if_true] at h; exact h
    · simp only [e, if_false] at h; exact g.fh c o h
  · by_cases e : c = m ∨ c ∈ rs
    · exact .inr (own c e).1
    · simp only [e, if_false] at h; exact g.nw c o h
  · show (if m = m ∨ m ∈ rs then H1 m else F1 m) = _
    rw [if_pos (.inl rfl)]; exact x.ow.h
  · rw [List.getElem?_map] at h1
    cases hr : rs[i]? with
    | none => rw [hr] at h1; cases h1
    | some r =>
      rw [hr] at h1
      cases h1
      obtain ⟨es, hes, hd⟩ := x.dat.get h2
      refine ⟨r, es, rfl, ?_, hd.up s⟩
      show (if r = m ∨ r ∈ rs then H1 r else F1 r) = _
      rw [if_pos (.inr (List.mem_of_getElem? hr))]
      exact (x.rows i r es hr hes).h
/-- it may be changed again -/
theorem MaO.thaw {F0 F3 G : Hp} (s0 : Same F0 H) (x : MaO H F1 H1 m rs ess M) (s : Same F1 F2) (on : ∀ c, c = m ∨ c ∈ rs → F2 c = H1 c) (s' : Same F2 F3) (g : Gr mu F0 H F3 G) : ∃ F', Gr mu F0 H F' G ∧ Same F1 F' ∧ MaO H F' G m rs ess M := by
  have own : ∀ c, (c = m ∨ c ∈ rs) → H c = none ∧ F1 c = none ∧ ∀ o, H1 c = some o → G c = some o := fun c h => by
    have k : ∀ o, H1 c = some o → G c = some o := fun o e => g.fh _ _ (s' _ _ ((on c h).trans e))
    rcases id h with rfl | h
    · exact ⟨x.ow.n, x.ow.f, k⟩
    · obtain ⟨es, w⟩ := x.row h
      exact ⟨w.n, w.f, k⟩
  have sa : Same F1 (fun c => if c = m ∨ c ∈ rs then none else F3 c) := fun c o h => by
    by_cases e : c = m ∨ c ∈ rs
    · rw [(own c e).2.1] at h; cases h
    · simp only [e, if_false]; exact s' _ _ (s _ _ h)
  have sb : Same (fun c => if c = m ∨ c ∈ rs then none else F3 c) F3 := fun c o h => by
    by_cases e : c = m ∨ c ∈ rs
    · simp only [e, if_true] at h; cases h
    · simp only [e, if_false] at h; exact h
  have no : ∀ c, (c = m ∨ c ∈ rs) → (fun c => if c = m ∨ c ∈ rs then none else F3 c) c = none := fun c e => if_pos e
  refine ⟨fun c => if c = m ∨ c ∈ rs then none else F3 c, ⟨fun c o h => ?_, fun c o h => g.fh _ _ (sb _ _ h), fun c o h => g.nw _ _ (sb _ _ h), g.fr, g.th⟩, sa, ⟨⟨x.ow.n, no _ (.inl rfl), (own _ (.inl rfl)).2.2 _ x.ow.h⟩, x.nd, x.ne, x.len, fun i r es h1 h2 => ?_, x.dat.imp fun es row z => z.up sa⟩⟩
  · by_cases e : c = m ∨ c ∈ rs
    · have z := s0 c o h
      rw [(own c e).1] at z; cases z
    · simp only [e, if_false]; exact g.ff c o h
  · have w := x.rows i r es h1 h2
    have m' : r = m ∨ r ∈ rs := .inr (List.mem_of_getElem? h1)
    exact ⟨w.n, no _ m', (own _ m').2.2 _ w.h⟩
theorem MaO.at (x : MaO H F1 H1 m rs ess M) {i : Nat} {row : List Ent} (h : M[i]? = some row) : ∃ r es, rs[i]? = some r ∧ ess[i]? = some es ∧ Ow H F1 H1 r (.lst es) ∧ IsAll F1 es row := by
  obtain ⟨es, hes, al⟩ := x.dat.get h
  have l : i < rs.length := by rw [x.len]; exact (List.getElem?_eq_some_iff.mp hes).1
  exact ⟨_, es, List.getElem?_eq_getElem l, hes, x.rows i _ es (List.getElem?_eq_getElem l) hes, al⟩
end
theorem ixN_of {n : Nat} {k : Int} (h0 : 0 ≤ k) (h1 : k < n) : ixN n k = some k.toNat := by
  unfold ixN
  rw [if_pos h0, if_pos h1]
theorem Gr.pf {mu : Addr → Prop} {F H F1 H1 : Hp} {p : Addr} {o : HO} (g : Gr mu F H F1 H1) (f : F p = none) (h : H p = some o) : F1 p = none := by
  cases e : F1 p with
  | none => rfl
  | some z =>
    rcases g.nw p z e with k | k
    · rw [f] at k; cases k
    · rw [h] at k; cases k
/-- a draw: the purse alone is another one -/
theorem Gr.drw {F H F1 H1 : Hp} {p : Addr} {o : HO} {a b : Int} (g : Gr (muP p) F H F1 H1) (f : F p = none) (h : H p = some o) : Gr (muP p) F H F1 (upd H1 p (PurseO a b)) ∧ Gr (muP p) F1 H1 F1 (upd H1 p (PurseO a b)) :=
  ⟨g.set (g.pf f h) (.inr rfl), (Gr.refl g.fh).set (g.pf f h) (.inr rfl)⟩
theorem MOk.set {M : Mach} {R S i j : Nat} {row : List Ent} {e : Ent} (h : MOk M R S) (hr : M[i]? = some row) (he : EOk R S e) : MOk (M.set i (row.set j e)) R S := by
  have mr := List.mem_of_getElem? hr
  refine ⟨h.r1, h.r4, h.s2, h.s4, by rw [List.length_set]; exact h.len, fun r z => ?_, fun r z e' z' => ?_⟩
  · rcases List.mem_or_eq_of_mem_set z with z | rfl
    · exact h.row r z
    · rw [List.length_set]; exact h.row row mr
  · rcases List.mem_or_eq_of_mem_set z with z | rfl
    · exact h.ent r z e' z'
    · rcases List.mem_or_eq_of_mem_set z' with z' | rfl
      · exact h.ent row mr e' z'
      · exact he
theorem Gr.pf0 {mu : Addr → Prop} {F H F1 H1 : Hp} {p : Addr} {o : HO} (g : Gr mu F H F1 H1) (f : F p = none) (h : H p = some o) : F1 p = none := by
  cases e : F1 p with
  | none => rfl
  | some z =>
    rcases g.nw p z e with k | k
    · rw [f] at k; cases k
    · rw [h] at k; cases k
/-! ### words -/
/-- a text that may stand in a datum -/
structure TStr where
  x : Str
  ok : PyData.strOk x = true
  deriving DecidableEq
instance : Dat TStr where
  rep := fun _ v d => v = .str d.x
  mono := fun _ h => h
  py := fun d => .str d.x
  dp := fun h => h ▸ .str _
  can := fun d => d.ok
  dep := 0
  depth := fun _ => Nat.le_refl _
  eqv := fun a b => by
    obtain ⟨a, _⟩ := a; obtain ⟨b, _⟩ := b
    simp [PyData.eqv]
/-! ### an entry -/
def entAt (M : Mach) (r s : Int) : Ent := (((M[r.toNat]?).getD [])[s.toNat]?).getD .emp
theorem ent_of {M : Mach} {R S : Nat} (h : MOk M R S) {r s : Int} (r0 : 0 ≤ r) (r1 : r < R) (s0 : 0 ≤ s) (s1 : s < S) : ∃ row, M[r.toNat]? = some row ∧ row[s.toNat]? = some (entAt M r s) ∧ EOk R S (entAt M r s) := by
  have hr : r.toNat < M.length := by rw [h.len]; omega
  have e1 : M[r.toNat]? = some M[r.toNat] := List.getElem?_eq_getElem hr
  have hs : s.toNat < (M[r.toNat]).length := by rw [h.row _ (List.getElem_mem hr)]; omega
  have e2 : (M[r.toNat])[s.toNat]? = some (M[r.toNat])[s.toNat] := List.getElem?_eq_getElem hs
  have e3 : entAt M r s = (M[r.toNat])[s.toNat] := by
    unfold entAt
    rw [e1]
    show ((M[r.toNat])[s.toNat]?).getD Ent.emp = _
    rw [e2]; rfl
  exact ⟨_, e1, by rw [e3]; exact e2, by rw [e3]; exact h.ent _ (List.getElem_mem hr) _ (List.getElem_mem hs)⟩
def tEnd : TStr := ⟨"end", by decide +kernel⟩
/-! ### out of a block -/
def tOut : TStr := ⟨"out", by decide +kernel⟩
def tStay : TStr := ⟨"stay", by decide +kernel⟩
/-! ### the mirrored machine -/
def mirE : Ent → Ent
  | .emp => .emp
  | .go p w r => .go p (0 - w) r
def mirM (M : Mach) : Mach := M.map fun row => row.map mirE
theorem MOk.mir {M : Mach} {R S : Nat} (h : MOk M R S) : MOk (mirM M) R S := by
  refine ⟨h.r1, h.r4, h.s2, h.s4, by unfold mirM; rw [List.length_map]; exact h.len, fun r m => ?_, fun r m e k => ?_⟩
  · obtain ⟨r0, m0, rfl⟩ := List.mem_map.mp m
    rw [List.length_map]; exact h.row r0 m0
  · obtain ⟨r0, m0, rfl⟩ := List.mem_map.mp m
    obtain ⟨e0, k0, rfl⟩ := List.mem_map.mp k
    have o := h.ent r0 m0 e0 k0
    cases e0 with
    | emp => exact ⟨fun p w r z => nomatch z⟩
    | go p w r =>
      obtain ⟨o1, o2, o3⟩ := o.ok p w r rfl
      refine ⟨fun p' w' r' z => ?_⟩
      cases z
      exact ⟨o1, by omega, o3⟩
/-! ### blocks, gone through (plain) -/
structure Bs where
  s : List Int
  p : Int
  r : Int
  deriving DecidableEq
inductive Bn where
  | nxt (b : Bs)
  | lv (w : TStr) (s : List Int) (r x d : Int)
def sgB (b : Bs) : Int := (b.s[b.p.toNat]?).getD 0
def bn (M : Mach) (b : Bs) : Bn := match entAt M b.r (sgB b) with
  | .emp => .lv tEnd b.s b.r b.p 0
  | .go pu wa to => if 0 ≤ b.p + wa ∧ b.p + wa < (b.s.length : Int) then .nxt ⟨b.s.set b.p.toNat pu, b.p + wa, to⟩ else .lv tOut (b.s.set b.p.toNat pu) to wa 1
theorem bn_emp {M : Mach} {b : Bs} (e : entAt M b.r (sgB b) = .emp) : bn M b = .lv tEnd b.s b.r b.p 0 := by
  unfold bn; rw [e]
theorem bn_go {M : Mach} {b : Bs} {pu wa to : Int} (e : entAt M b.r (sgB b) = .go pu wa to) (h : 0 ≤ b.p + wa ∧ b.p + wa < (b.s.length : Int)) : bn M b = .nxt ⟨b.s.set b.p.toNat pu, b.p + wa, to⟩ := by
  unfold bn; rw [e]; exact if_pos h
theorem bn_out {M : Mach} {b : Bs} {pu wa to : Int} (e : entAt M b.r (sgB b) = .go pu wa to) (h : ¬ (0 ≤ b.p + wa ∧ b.p + wa < (b.s.length : Int))) : bn M b = .lv tOut (b.s.set b.p.toNat pu) to wa 1 := by
  unfold bn; rw [e]; exact if_neg h
def tj (M : Mach) : Nat → Bs → Option Bs
  | 0, b => some b
  | n + 1, b => match bn M b with
    | .nxt c => tj M n c
    | .lv .. => none
inductive ThR where
  | stay
  | fin (w : TStr) (s : List Int) (r x n : Int)
  deriving DecidableEq
def bgo (M : Mach) : Nat → Bs → Int → ThR
  | 0, _, _ => .stay
  | n + 1, b, k => match bn M b with
    | .nxt c => bgo M n c (k + 1)
    | .lv w s r x d => .fin w s r x (k + d)
section
variable {M : Mach} {b c : Bs}
theorem tj_nxt {n : Nat} (e : bn M b = .nxt c) : tj M (n + 1) b = tj M n c := by
  show (match bn M b with | .nxt c => tj M n c | .lv .. => none) = _
  rw [e]
theorem tj_lv {n : Nat} {w s r x d} (e : bn M b = .lv w s r x d) : tj M (n + 1) b = none := by
  show (match bn M b with | .nxt c => tj M n c | .lv .. => none) = _
  rw [e]
theorem bgo_nxt {n : Nat} {k : Int} (e : bn M b = .nxt c) : bgo M (n + 1) b k = bgo M n c (k + 1) := by
  show (match bn M b with | .nxt c => bgo M n c (k + 1) | .lv w s r x d => .fin w s r x (k + d)) = _
  rw [e]
theorem bgo_lv {n : Nat} {k : Int} {w s r x d} (e : bn M b = .lv w s r x d) : bgo M (n + 1) b k = .fin w s r x (k + d) := by
  show (match bn M b with | .nxt c => bgo M n c (k + 1) | .lv w s r x d => .fin w s r x (k + d)) = _
  rw [e]
theorem tj_add (M : Mach) : ∀ (m n : Nat) (b : Bs), tj M (m + n) b = (tj M m b).bind (tj M n)
  | 0, n, b => by rw [Nat.zero_add]; rfl
  | m + 1, n, b => by
    rw [show m + 1 + n = (m + n) + 1 by omega]
    cases e : bn M b with
    | nxt c => rw [tj_nxt e, tj_nxt e]; exact tj_add M m n c
    | lv w s r x d => rw [tj_lv e, tj_lv e]; rfl
theorem tj_at {m n : Nat} {c : Bs} (h : tj M m b = some c) : tj M (m + n) b = tj M n c := by
  rw [tj_add, h]; rfl
theorem tj_le {m n : Nat} (l : m ≤ n) (h : tj M n b ≠ none) : tj M m b ≠ none := fun z => by
  obtain ⟨k, rfl⟩ := Nat.le.dest l
  rw [tj_add, z] at h
  exact h rfl
/-- it leaves behind i steps, from c -/
theorem bgo_of : ∀ (i n : Nat) (b : Bs) (k : Int) (c : Bs) (w : TStr) (s : List Int) (r x d : Int), tj M i b = some c → bn M c = .lv w s r x d → i < n → bgo M n b k = .fin w s r x (k + i + d)
  | 0, n + 1, b, k, c, w, s, r, x, d, h, e, _ => by
    cases h
    rw [bgo_lv e]; congr 1; omega
  | i + 1, n + 1, b, k, c, w, s, r, x, d, h, e, l => by
    cases eb : bn M b with
    | nxt b' =>
      rw [tj_nxt eb] at h
      rw [bgo_nxt eb, bgo_of i n b' (k + 1) c w s r x d h e (by omega)]
      congr 1; omega
    | lv w s r x d => rw [tj_lv eb] at h; cases h
theorem bgo_fin : ∀ (n : Nat) (b : Bs) (k : Int) (w : TStr) (s : List Int) (r x m : Int), bgo M n b k = .fin w s r x m → ∃ (i : Nat) (c : Bs) (d : Int), i < n ∧ tj M i b = some c ∧ bn M c = .lv w s r x d ∧ m = k + i + d
  | 0, b, k, w, s, r, x, m, h => by cases h
  | n + 1, b, k, w, s, r, x, m, h => by
    cases eb : bn M b with
    | nxt b' =>
      rw [bgo_nxt eb] at h
      obtain ⟨i, c, d, l, h1, h2, h3⟩ := bgo_fin n b' (k + 1) w s r x m h
      exact ⟨i + 1, c, d, by omega, by rw [tj_nxt eb]; exact h1, h2, by rw [h3]; omega⟩
    | lv w' s' r' x' d' =>
      rw [bgo_lv eb] at h
      cases h
      exact ⟨0, b, d', by omega, rfl, eb, by omega⟩
theorem bgo_stay : ∀ (n : Nat) (b : Bs) (k : Int), bgo M n b k = .stay → tj M n b ≠ none
  | 0, b, k, _ => fun z => nomatch z
  | n + 1, b, k, h => by
    cases eb : bn M b with
    | nxt b' =>
      rw [bgo_nxt eb] at h
      rw [tj_nxt eb]
      exact bgo_stay n b' _ h
    | lv w' s' r' x' d' => rw [bgo_lv eb] at h; cases h
/-- it never leaves -/
def NV (M : Mach) (b : Bs) : Prop := ∀ n, tj M n b ≠ none
theorem NV.fin {w s r x m} (h : NV M b) (n : Nat) (k : Int) : bgo M n b k ≠ .fin w s r x m := fun z => by
  obtain ⟨i, c, d, _, h1, h2, _⟩ := bgo_fin n b k w s r x m z
  refine h (i + 1) ?_
  rw [tj_at h1, tj_lv h2]
theorem NV.stay (h : NV M b) (n : Nat) (k : Int) : bgo M n b k = .stay := by
  cases e : bgo M n b k with
  | stay => rfl
  | fin w s r x m => exact absurd e (h.fin n k)
theorem NV.of {i : Nat} (h : tj M i b = some c) (z : NV M c) : NV M b := fun n => by
  refine tj_le (n := i + n) (by omega) ?_
  rw [tj_at h]; exact z n
theorem NV.cyc {d : Nat} (h : tj M d c = some c) (p : 0 < d) : NV M c := fun n => by
  have z : ∀ q, tj M (q * d) c = some c := fun q => by
    induction q with
    | zero => rw [Nat.zero_mul]; rfl
    | succ q ih => rw [Nat.succ_mul, tj_at ih, h]
  refine tj_le (n := n * d) (Nat.le_mul_of_pos_right n p) ?_
  rw [z]; exact fun e => nomatch e
theorem NV.two {i j : Nat} (l : i < j) (h : tj M i b = some c) (h' : tj M j b = some c) : NV M b := by
  refine NV.of h (NV.cyc (d := j - i) ?_ (by omega))
  rw [← tj_at (n := j - i) h, show i + (j - i) = j by omega]; exact h'
end
/-! ### how many there are -/
theorem pig : ∀ (n : Nat) (f : Nat → Nat), (∀ i, i ≤ n → f i < n) → ∃ i j, i < j ∧ j ≤ n ∧ f i = f j
  | 0, f, h => absurd (h 0 (Nat.le_refl 0)) (by omega)
  | n + 1, f, h => by
    by_cases e : ∃ i, i ≤ n ∧ f i = f (n + 1)
    · obtain ⟨i, l, e⟩ := e
      exact ⟨i, n + 1, by omega, Nat.le_refl _, e⟩
    · have e : ∀ i, i ≤ n → f i ≠ f (n + 1) := fun i l z => e ⟨i, l, z⟩
      have hl := h (n + 1) (Nat.le_refl _)
      obtain ⟨i, j, l, lj, q⟩ := pig n (fun i => if f i = n then f (n + 1) else f i) fun i l => by
        have h1 := h i (by omega)
        have h2 := e i l
        show (if f i = n then f (n + 1) else f i) < n
        split
        · omega
        · omega
      refine ⟨i, j, l, by omega, ?_⟩
      have ei := e i (by omega)
      have ej := e j lj
      have q : (if f i = n then f (n + 1) else f i) = (if f j = n then f (n + 1) else f j) := q
      split at q
      · split at q
        · omega
        · exact absurd q.symm ej
      · split at q
        · exact absurd q ei
        · exact q
def enc (S : Nat) : List Int → Nat
  | [] => 0
  | x :: l => x.toNat + S * enc S l
def SOk (S : Nat) (l : List Int) : Prop := ∀ x ∈ l, 0 ≤ x ∧ x < (S : Int)
theorem SOk.tail {S : Nat} {x : Int} {l : List Int} (h : SOk S (x :: l)) : SOk S l := fun y z => h y (List.mem_cons_of_mem _ z)
theorem SOk.app {S : Nat} {l m : List Int} (h : SOk S l) (k : SOk S m) : SOk S (l ++ m) := fun y z => (List.mem_append.mp z).elim (h y) (k y)
theorem SOk.set {S : Nat} {l : List Int} (h : SOk S l) {i : Nat} {v : Int} (k : 0 ≤ v ∧ v < (S : Int)) : SOk S (l.set i v) := fun y z => by
  rcases List.mem_or_eq_of_mem_set z with z | z
  · exact h y z
  · rw [z]; exact k
theorem SOk.rev {S : Nat} {l : List Int} (h : SOk S l) : SOk S l.reverse := fun y z => h y (List.mem_reverse.mp z)
theorem enc_lt {S : Nat} : ∀ {l : List Int}, SOk S l → enc S l < S ^ l.length
  | [], _ => by show 0 < 1; omega
  | x :: l, h => by
    have h1 := enc_lt h.tail
    have hx := h x (List.mem_cons_self ..)
    show x.toNat + S * enc S l < S ^ (l.length + 1)
    rw [Nat.pow_succ, Nat.mul_comm (S ^ l.length) S]
    have : S * (enc S l + 1) ≤ S * S ^ l.length := Nat.mul_le_mul_left S h1
    rw [Nat.mul_add, Nat.mul_one] at this
    omega
theorem div_eq2 {S x y a b : Nat} (hx : x < S) (hy : y < S) (e : x + S * a = y + S * b) : x = y ∧ a = b := by
  have p : 0 < S := by omega
  have e1 : (x + S * a) % S = x := by rw [Nat.add_mul_mod_self_left, Nat.mod_eq_of_lt hx]
  have e2 : (y + S * b) % S = y := by rw [Nat.add_mul_mod_self_left, Nat.mod_eq_of_lt hy]
  have exy : x = y := by rw [← e1, ← e2, e]
  subst exy
  refine ⟨rfl, Nat.eq_of_mul_eq_mul_left p (by omega)⟩
theorem enc_inj {S : Nat} : ∀ {l m : List Int}, SOk S l → SOk S m → l.length = m.length → enc S l = enc S m → l = m
  | [], [], _, _, _, _ => rfl
  | [], _ :: _, _, _, h, _ => by simp at h
  | _ :: _, [], _, _, h, _ => by simp at h
  | x :: l, y :: m, h, k, hl, e => by
    have hx := h x (List.mem_cons_self ..)
    have hy := k y (List.mem_cons_self ..)
    obtain ⟨e1, e2⟩ := div_eq2 (S := S) (x := x.toNat) (y := y.toNat) (by omega) (by omega) e
    rw [enc_inj h.tail k.tail (by simpa using hl) e2, show x = y by omega]
structure BOk (R S L : Nat) (b : Bs) : Prop where
  len : b.s.length = L
  s : SOk S b.s
  p0 : 0 ≤ b.p
  p1 : b.p < L
  r0 : 0 ≤ b.r
  r1 : b.r < R
section
variable {M : Mach} {R S L : Nat} {b c : Bs}
theorem BOk.sgB (h : BOk R S L b) : b.s[b.p.toNat]? = some (sgB b) ∧ 0 ≤ sgB b ∧ sgB b < S := by
  have l : b.p.toNat < b.s.length := by have := h.len; have := h.p0; have := h.p1; omega
  have e : b.s[b.p.toNat]? = some b.s[b.p.toNat] := List.getElem?_eq_getElem l
  have e2 : E.sgB b = b.s[b.p.toNat] := by unfold E.sgB; rw [e]; rfl
  rw [e2]
  exact ⟨e, h.s _ (List.getElem_mem l)⟩
theorem BOk.ent (h : BOk R S L b) (hM : MOk M R S) : EOk R S (entAt M b.r (E.sgB b)) := (ent_of hM h.r0 h.r1 h.sgB.2.1 h.sgB.2.2).choose_spec.2.2
theorem bn_ok (h : BOk R S L b) (hM : MOk M R S) (e : bn M b = .nxt c) : BOk R S L c := by
  have eo := h.ent hM
  cases ee : entAt M b.r (E.sgB b) with
  | emp => rw [bn_emp ee] at e; cases e
  | go pu wa to =>
    rw [ee] at eo
    obtain ⟨o1, o2, o3⟩ := eo.ok _ _ _ rfl
    by_cases z : 0 ≤ b.p + wa ∧ b.p + wa < (b.s.length : Int)
    · rw [bn_go ee z] at e
      cases e
      exact ⟨by rw [List.length_set]; exact h.len, h.s.set o1, z.1, by rw [← h.len]; exact z.2, o3.1, o3.2⟩
    · rw [bn_out ee z] at e; cases e
theorem tj_ok (hM : MOk M R S) : ∀ (n : Nat) (b c : Bs), BOk R S L b → tj M n b = some c → BOk R S L c
  | 0, b, c, h, e => by cases e; exact h
  | n + 1, b, c, h, e => by
    cases eb : bn M b with
    | nxt b' => rw [tj_nxt eb] at e; exact tj_ok hM n b' c (bn_ok h hM eb) e
    | lv w s r x d => rw [tj_lv eb] at e; cases e
def code (R S L : Nat) (b : Bs) : Nat := b.r.toNat + R * (b.p.toNat + L * enc S b.s)
theorem code_lt (h : BOk R S L b) : code R S L b < R * L * S ^ L := by
  have h1 := enc_lt h.s
  rw [h.len] at h1
  have hp : b.p.toNat < L := by have := h.p0; have := h.p1; omega
  have hr : b.r.toNat < R := by have := h.r0; have := h.r1; omega
  have a1 : L * (enc S b.s + 1) ≤ L * S ^ L := Nat.mul_le_mul_left L h1
  rw [Nat.mul_add, Nat.mul_one] at a1
  have a2 : b.p.toNat + L * enc S b.s + 1 ≤ L * S ^ L := by omega
  have a3 : R * (b.p.toNat + L * enc S b.s + 1) ≤ R * (L * S ^ L) := Nat.mul_le_mul_left R a2
  rw [Nat.mul_add, Nat.mul_one, ← Nat.mul_assoc] at a3
  show b.r.toNat + R * (b.p.toNat + L * enc S b.s) < _
  omega
theorem code_inj (h : BOk R S L b) (k : BOk R S L c) (e : code R S L b = code R S L c) : b = c := by
  have h1 := h.p0; have h2 := h.p1; have h3 := h.r0; have h4 := h.r1
  have k1 := k.p0; have k2 := k.p1; have k3 := k.r0; have k4 := k.r1
  obtain ⟨e1, e2⟩ := div_eq2 (S := R) (by omega) (by omega) e
  obtain ⟨e3, e4⟩ := div_eq2 (S := L) (by omega) (by omega) e2
  have e5 := enc_inj h.s k.s (h.len.trans k.len.symm) e4
  obtain ⟨s, p, r⟩ := b
  obtain ⟨s', p', r'⟩ := c
  simp only at *
  rw [e5, show p = p' by omega, show r = r' by omega]
/-- what has gone on for so long never leaves -/
theorem nv_of (hM : MOk M R S) (h : BOk R S L b) {N : Nat} (l : R * L * S ^ L ≤ N) (e : tj M N b ≠ none) : NV M b := by
  have a : ∀ i, i ≤ R * L * S ^ L → ∃ c, tj M i b = some c := fun i li => by
    cases z : tj M i b with
    | none => exact absurd z (tj_le (n := N) (by omega) e)
    | some c => exact ⟨c, rfl⟩
  obtain ⟨i, j, ij, jn, q⟩ := pig (R * L * S ^ L) (fun i => code R S L ((tj M i b).getD b)) fun i li => by
    obtain ⟨c, ec⟩ := a i li
    show code R S L ((tj M i b).getD b) < _
    rw [ec]
    exact code_lt (tj_ok hM i b c h ec)
  obtain ⟨c, ec⟩ := a i (by omega)
  obtain ⟨c', ec'⟩ := a j jn
  have q : code R S L ((tj M i b).getD b) = code R S L ((tj M j b).getD b) := q
  rw [ec, ec'] at q
  have e := code_inj (tj_ok hM i b c h ec) (tj_ok hM j b c' h ec') q
  rw [← e] at ec'
  exact NV.two ij ec ec'
end
/-! ### a block is gone through -/
def st0 (s : List Int) (row : Int) (far : Bool) : Bs := ⟨s, if far then (s.length : Int) - 1 else 0, row⟩
def mostB (R S L : Nat) : Nat := R * L * S ^ L
def thr (M : Mach) (R S : Nat) (s : List Int) (row : Int) (far : Bool) : ThR := bgo M (mostB R S s.length + 1) (st0 s row far) 0
section
variable {M : Mach} {R S L : Nat} {s : List Int} {row : Int} {far : Bool}
theorem st0_ok (h : SOk S s) (l : 1 ≤ s.length) (r0 : 0 ≤ row) (r1 : row < R) : BOk R S s.length (st0 s row far) := by
  refine ⟨rfl, h, ?_, ?_, r0, r1⟩
  · show 0 ≤ (if far then (s.length : Int) - 1 else 0); split <;> omega
  · show (if far then (s.length : Int) - 1 else 0) < s.length; split <;> omega
theorem thr_stay (hM : MOk M R S) (h : SOk S s) (l : 1 ≤ s.length) (r0 : 0 ≤ row) (r1 : row < R) (e : thr M R S s row far = .stay) : NV M (st0 s row far) :=
  nv_of hM (st0_ok h l r0 r1) (Nat.le_succ _) (bgo_stay _ _ _ e)
theorem thr_nv (e : NV M (st0 s row far)) : thr M R S s row far = .stay := e.stay _ _
theorem thr_fin {w s' r x m} (e : thr M R S s row far = .fin w s' r x m) : ∃ (i : Nat) (c : Bs) (d : Int), tj M i (st0 s row far) = some c ∧ bn M c = .lv w s' r x d ∧ m = i + d := by
  obtain ⟨i, c, d, _, h1, h2, h3⟩ := bgo_fin _ _ _ _ _ _ _ _ e
  exact ⟨i, c, d, h1, h2, by omega⟩
theorem thr_of (hM : MOk M R S) (h : SOk S s) (l : 1 ≤ s.length) (r0 : 0 ≤ row) (r1 : row < R) {i : Nat} {c : Bs} {w s' r x d} (e : tj M i (st0 s row far) = some c) (e' : bn M c = .lv w s' r x d) : thr M R S s row far = .fin w s' r x (i + d) := by
  by_cases z : i < mostB R S s.length + 1
  · have := bgo_of (M := M) i _ (st0 s row far) 0 c w s' r x d e e' z
    rw [Int.zero_add] at this
    exact this
  · exfalso
    have nv := nv_of (N := i) hM (st0_ok (far := far) h l r0 r1) (by unfold mostB at z; omega) (by rw [e]; exact fun z => nomatch z)
    exact nv (i + 1) (by rw [tj_at e, tj_lv e'])
end
/-! ### a block's halves -/
/-- a half's setup as one of the whole: g the other half, far: this one is the second -/
def emb (far : Bool) (g : List Int) (c : Bs) : Bs := if far then ⟨g ++ c.s, (g.length : Int) + c.p, c.r⟩ else ⟨c.s ++ g, c.p, c.r⟩
section
variable {M : Mach} {R S L : Nat} {c c' : Bs} {g : List Int} {far : Bool}
theorem get_app_r {g s : List Int} {p : Int} (h : 0 ≤ p) : (g ++ s)[((g.length : Int) + p).toNat]? = s[p.toNat]? := by
  rw [List.getElem?_append_right (by omega)]
  congr 1; omega
theorem set_app_r {g s : List Int} {p v : Int} (h : 0 ≤ p) : (g ++ s).set ((g.length : Int) + p).toNat v = g ++ s.set p.toNat v := by
  rw [List.set_append_right _ _ (by omega)]
  congr 2; omega
theorem sgB_emb (h : BOk R S L c) : sgB (emb far g c) = sgB c := by
  have l : c.p.toNat < c.s.length := by have := h.len; have := h.p0; have := h.p1; omega
  cases far
  · show ((c.s ++ g)[c.p.toNat]?).getD 0 = _
    rw [List.getElem?_append_left l]; rfl
  · show ((g ++ c.s)[((g.length : Int) + c.p).toNat]?).getD 0 = _
    rw [get_app_r h.p0]; rfl
theorem emb_r : (emb far g c).r = c.r := by cases far <;> rfl
theorem ent_emb (h : BOk R S L c) : entAt M (emb far g c).r (sgB (emb far g c)) = entAt M c.r (sgB c) := by rw [emb_r, sgB_emb h]
theorem emb_len : ((emb far g c).s.length : Int) = g.length + c.s.length := by
  cases far
  · show ((c.s ++ g).length : Int) = _; rw [List.length_append]; omega
  · show ((g ++ c.s).length : Int) = _; rw [List.length_append]; omega
theorem emb_p : (emb far g c).p = (if far then (g.length : Int) else 0) + c.p := by
  cases far
  · show c.p = 0 + c.p; omega
  · rfl
theorem emb_set (h : BOk R S L c) (v p r : Int) : (⟨(emb far g c).s.set (emb far g c).p.toNat v, (if far then (g.length : Int) else 0) + p, r⟩ : Bs) = emb far g ⟨c.s.set c.p.toNat v, p, r⟩ := by
  have l : c.p.toNat < c.s.length := by have := h.len; have := h.p0; have := h.p1; omega
  cases far
  · show (⟨(c.s ++ g).set c.p.toNat v, 0 + p, r⟩ : Bs) = ⟨c.s.set c.p.toNat v ++ g, p, r⟩
    rw [List.set_append_left _ _ l, Int.zero_add]
  · show (⟨(g ++ c.s).set ((g.length : Int) + c.p).toNat v, (g.length : Int) + p, r⟩ : Bs) = ⟨g ++ c.s.set c.p.toNat v, (g.length : Int) + p, r⟩
    rw [set_app_r h.p0]
theorem bn_emb_nxt (h : BOk R S L c) (e : bn M c = .nxt c') : bn M (emb far g c) = .nxt (emb far g c') := by
  cases ee : entAt M c.r (sgB c) with
  | emp => rw [bn_emp ee] at e; cases e
  | go pu wa to =>
    by_cases z : 0 ≤ c.p + wa ∧ c.p + wa < (c.s.length : Int)
    · rw [bn_go ee z] at e
      cases e
      have e2 := (ent_emb (M := M) (g := g) (far := far) h).trans ee
      have hp := @emb_p c g far
      have hl := @emb_len c g far
      rw [bn_go e2 (by rw [hp, hl]; split <;> omega), ← emb_set h, hp]
      congr 2; omega
    · rw [bn_out ee z] at e; cases e
theorem bn_emb_end {s : List Int} {r x d : Int} (h : BOk R S L c) (e : bn M c = .lv tEnd s r x d) : d = 0 ∧ s = c.s ∧ bn M (emb far g c) = .lv tEnd (emb far g c).s r ((if far then (g.length : Int) else 0) + x) 0 := by
  cases ee : entAt M c.r (sgB c) with
  | emp =>
    rw [bn_emp ee] at e
    cases e
    have e2 := (ent_emb (M := M) (g := g) (far := far) h).trans ee
    rw [bn_emp e2, emb_r, emb_p]
    exact ⟨rfl, rfl, rfl⟩
  | go pu wa to =>
    exfalso
    by_cases z : 0 ≤ c.p + wa ∧ c.p + wa < (c.s.length : Int)
    · rw [bn_go ee z] at e; cases e
    · rw [bn_out ee z] at e
      injection e with e1
      exact absurd e1 (by decide +kernel)
/-- out of a half: out of the whole, or at the near end of the other half -/
theorem bn_emb_out {s : List Int} {r wa d : Int} (hM : MOk M R S) (h : BOk R S L c) (hg : 1 ≤ g.length) (e : bn M c = .lv tOut s r wa d) : d = 1 ∧ s.length = L ∧ SOk S s ∧ (0 ≤ r ∧ r < R) ∧ (wa = -1 ∨ wa = 1) ∧
    bn M (emb far g c) = if far = decide (wa = 1) then .lv tOut (emb far g ⟨s, 0, r⟩).s r wa 1 else .nxt (emb (!far) s (st0 g r (!decide (wa = 1)))) := by
  have p0 := h.p0; have p1 := h.p1; have hl := h.len
  have eo := h.ent hM
  cases ee : entAt M c.r (sgB c) with
  | emp =>
    exfalso
    rw [bn_emp ee] at e
    injection e with e1
    exact absurd e1 (by decide +kernel)
  | go pu wa' to =>
    rw [ee] at eo
    obtain ⟨o1, o2, o3⟩ := eo.ok _ _ _ rfl
    by_cases z : 0 ≤ c.p + wa' ∧ c.p + wa' < (c.s.length : Int)
    · rw [bn_go ee z] at e; cases e
    · rw [bn_out ee z] at e
      cases e
      refine ⟨rfl, by rw [List.length_set]; exact hl, h.s.set o1, o3, o2, ?_⟩
      have e2 := (ent_emb (M := M) (g := g) (far := far) h).trans ee
      have hp := @emb_p c g far
      have hll := @emb_len c g far
      by_cases k : far = decide (wa = 1)
      · rw [if_pos k, bn_out e2 ?_]
        · congr 1
          have := emb_set (far := far) (g := g) h pu 0 r
          exact congrArg Bs.s this
        · rw [hp, hll]
          rcases o2 with rfl | rfl
          · rw [decide_eq_false (by omega)] at k
            subst k
            show ¬ (0 ≤ 0 + c.p + -1 ∧ _)
            omega
          · rw [decide_eq_true (by omega)] at k
            subst k
            show ¬ (_ ∧ (g.length : Int) + c.p + 1 < _)
            omega
      · rw [if_neg k]
        rw [bn_go e2 (by
          rw [hp, hll]
          rcases o2 with rfl | rfl
          · rw [decide_eq_false (by omega)] at k
            cases far
            · exact absurd rfl k
            · show 0 ≤ (g.length : Int) + c.p + -1 ∧ (g.length : Int) + c.p + -1 < _
              omega
          · rw [decide_eq_true (by omega)] at k
            cases far
            · show 0 ≤ 0 + c.p + 1 ∧ 0 + c.p + 1 < _
              omega
            · exact absurd rfl k)]
        congr 1
        have ls : (c.s.set c.p.toNat pu).length = c.s.length := List.length_set
        rcases o2 with rfl | rfl
        · rw [decide_eq_false (by omega)] at k ⊢
          cases far
          · exact absurd rfl k
          · have := emb_set (far := true) (g := g) h pu (-1) r
            have e3 : (emb true g c).p + -1 = (if true then (g.length : Int) else 0) + -1 := by
              show (g.length : Int) + c.p + -1 = (g.length : Int) + -1
              omega
            rw [e3, this]
            show (⟨g ++ c.s.set c.p.toNat pu, (g.length : Int) + -1, r⟩ : Bs) = ⟨g ++ c.s.set c.p.toNat pu, (g.length : Int) - 1, r⟩
            rfl
        · rw [decide_eq_true (by omega)] at k ⊢
          cases far
          · have := emb_set (far := false) (g := g) h pu (c.p + 1) r
            have e3 : (emb false g c).p + 1 = (if false then (g.length : Int) else 0) + (c.p + 1) := by
              show c.p + 1 = 0 + (c.p + 1)
              omega
            rw [e3, this]
            show (⟨c.s.set c.p.toNat pu ++ g, c.p + 1, r⟩ : Bs) = ⟨c.s.set c.p.toNat pu ++ g, ((c.s.set c.p.toNat pu).length : Int) + 0, r⟩
            rw [ls]
            congr 1; omega
          · exact absurd rfl k
theorem tj_emb (hM : MOk M R S) : ∀ (n : Nat) (c c' : Bs), BOk R S L c → tj M n c = some c' → tj M n (emb far g c) = some (emb far g c')
  | 0, c, c', _, e => by cases e; rfl
  | n + 1, c, c', h, e => by
    cases eb : bn M c with
    | nxt b' =>
      rw [tj_nxt eb] at e
      rw [tj_nxt (bn_emb_nxt h eb)]
      exact tj_emb hM n b' c' (bn_ok h hM eb) e
    | lv w s r x d => rw [tj_lv eb] at e; cases e
theorem NV.emb (hM : MOk M R S) (h : BOk R S L c) (z : NV M c) : NV M (E.emb far g c) := fun n => by
  cases e : tj M n c with
  | none => exact absurd e (z n)
  | some c' => rw [tj_emb hM n c c' h e]; exact fun z => nomatch z
theorem word_of {s : List Int} {w : TStr} {r x d : Int} (e : bn M c = .lv w s r x d) : w = tEnd ∨ w = tOut := by
  cases ee : entAt M c.r (sgB c) with
  | emp => rw [bn_emp ee] at e; cases e; exact .inl rfl
  | go pu wa to =>
    by_cases z : 0 ≤ c.p + wa ∧ c.p + wa < (c.s.length : Int)
    · rw [bn_go ee z] at e; cases e
    · rw [bn_out ee z] at e; cases e; exact .inr rfl
end
/-- where the halves stand -/
structure Hv where
  far : Bool
  row : Int
  ri : Bool
  h0 : List Int
  h1 : List Int
  deriving DecidableEq
def Hv.it (h : Hv) : List Int := if h.far then h.h1 else h.h0
def Hv.ot (h : Hv) : List Int := if h.far then h.h0 else h.h1
def Hv.bs (h : Hv) : Bs := emb h.far h.ot (st0 h.it h.row h.ri)
def Hv.put (h : Hv) (s : List Int) (far : Bool) (row : Int) (ri : Bool) : Hv := ⟨far, row, ri, if h.far then h.h0 else s, if h.far then s else h.h1⟩
structure HvOk (R S L : Nat) (h : Hv) : Prop where
  l0 : h.h0.length = L
  l1 : h.h1.length = L
  s0 : SOk S h.h0
  s1 : SOk S h.h1
  r0 : 0 ≤ h.row
  r1 : h.row < R
section
variable {M : Mach} {R S L : Nat} {h : Hv} {W : Bs} {k : Nat}
theorem HvOk.it (a : HvOk R S L h) : h.it.length = L ∧ SOk S h.it := by
  obtain ⟨f, row, ri, h0, h1⟩ := h
  cases f
  · exact ⟨a.l0, a.s0⟩
  · exact ⟨a.l1, a.s1⟩
theorem HvOk.ot (a : HvOk R S L h) : h.ot.length = L ∧ SOk S h.ot := by
  obtain ⟨f, row, ri, h0, h1⟩ := h
  cases f
  · exact ⟨a.l1, a.s1⟩
  · exact ⟨a.l0, a.s0⟩
theorem HvOk.st (a : HvOk R S L h) (L1 : 1 ≤ L) : BOk R S L (st0 h.it h.row h.ri) := by
  have := st0_ok (R := R) (row := h.row) (far := h.ri) a.it.2 (by rw [a.it.1]; exact L1) a.r0 a.r1
  rw [a.it.1] at this; exact this
theorem hv_stay (hM : MOk M R S) (L1 : 1 ≤ L) (a : HvOk R S L h) (e : thr M R S h.it h.row h.ri = .stay) (t : tj M k W = some h.bs) : NV M W :=
  NV.of t (NV.emb hM (a.st L1) (thr_stay hM a.it.2 (by rw [a.it.1]; exact L1) a.r0 a.r1 e))
theorem emb_s2 {s : List Int} {p r : Int} : (emb h.far h.ot ⟨s, p, r⟩).s = (h.put s h.far r h.ri).h0 ++ (h.put s h.far r h.ri).h1 := by
  obtain ⟨f, row, ri, h0, h1⟩ := h
  cases f <;> rfl
theorem hv_end {s : List Int} {r x m : Int} (hM : MOk M R S) (L1 : 1 ≤ L) (a : HvOk R S L h) (e : thr M R S h.it h.row h.ri = .fin tEnd s r x m) (t : tj M k W = some h.bs) :
    ∃ (i : Nat) (c : Bs), tj M (k + i) W = some c ∧ bn M c = .lv tEnd ((h.put s h.far r h.ri).h0 ++ (h.put s h.far r h.ri).h1) r ((if h.far then (L : Int) else 0) + x) 0 ∧ m = i := by
  obtain ⟨i, c, d, h1, h2, h3⟩ := thr_fin e
  have okc := tj_ok hM i _ c (a.st L1) h1
  obtain ⟨rfl, rfl, h4⟩ := bn_emb_end (far := h.far) (g := h.ot) okc h2
  refine ⟨i, emb h.far h.ot c, by rw [tj_at t]; exact tj_emb hM i _ c (a.st L1) h1, ?_, by omega⟩
  rw [h4, a.ot.1]
  congr 1
  exact emb_s2 (h := h) (s := c.s) (p := c.p) (r := r) ▸ (by cases h.far <;> rfl)
theorem hv_out {s : List Int} {r wa m : Int} (hM : MOk M R S) (L1 : 1 ≤ L) (a : HvOk R S L h) (e : thr M R S h.it h.row h.ri = .fin tOut s r wa m) (t : tj M k W = some h.bs) :
    (wa = -1 ∨ wa = 1) ∧ ∃ i : Nat, m = i + 1 ∧ (h.far = decide (wa = 1) → ∃ c, tj M (k + i) W = some c ∧ bn M c = .lv tOut ((h.put s h.far r h.ri).h0 ++ (h.put s h.far r h.ri).h1) r wa 1) ∧
      (h.far ≠ decide (wa = 1) → HvOk R S L (h.put s (!h.far) r (!decide (wa = 1))) ∧ tj M (k + (i + 1)) W = some (h.put s (!h.far) r (!decide (wa = 1))).bs) := by
  obtain ⟨i, c, d, h1, h2, h3⟩ := thr_fin e
  have okc := tj_ok hM i _ c (a.st L1) h1
  obtain ⟨rfl, ls, ss, rr, ww, h4⟩ := bn_emb_out (far := h.far) (g := h.ot) hM okc (by rw [a.ot.1]; exact L1) h2
  have t1 := tj_emb (far := h.far) (g := h.ot) hM i _ c (a.st L1) h1
  refine ⟨ww, i, by omega, fun z => ⟨emb h.far h.ot c, by rw [tj_at t]; exact t1, ?_⟩, fun z => ?_⟩
  · rw [h4, if_pos z]
    congr 1
    exact emb_s2
  · rw [if_neg z] at h4
    refine ⟨?_, ?_⟩
    · obtain ⟨f, row, ri, h0, h1⟩ := h
      cases f
      · exact ⟨ls, a.l1, ss, a.s1, rr.1, rr.2⟩
      · exact ⟨a.l0, ls, a.s0, ss, rr.1, rr.2⟩
    · rw [tj_at t]
      show tj M (i + 1) (emb h.far h.ot (st0 h.it h.row h.ri)) = _
      rw [tj_at (n := 1) t1, tj_nxt h4]
      show some _ = some _
      congr 1
      obtain ⟨f, row, ri, h0, h1⟩ := h
      cases f <;> rfl
def Hv.code (R S : Nat) (h : Hv) : Nat := (if h.far then 1 else 0) + 2 * ((if h.ri then 1 else 0) + 2 * (h.row.toNat + R * enc S (h.h0 ++ h.h1)))
theorem HvOk.code_lt (a : HvOk R S L h) : h.code R S < 4 * (R * S ^ (L + L)) := by
  have h1 := enc_lt (a.s0.app a.s1)
  rw [List.length_append, a.l0, a.l1] at h1
  have hr : h.row.toNat < R := by have := a.r0; have := a.r1; omega
  have a1 : R * (enc S (h.h0 ++ h.h1) + 1) ≤ R * S ^ (L + L) := Nat.mul_le_mul_left R h1
  rw [Nat.mul_add, Nat.mul_one] at a1
  unfold Hv.code
  split <;> split <;> omega
theorem HvOk.code_inj {h' : Hv} (a : HvOk R S L h) (b : HvOk R S L h') (e : h.code R S = h'.code R S) : h = h' := by
  have a0 := a.r0; have a1 := a.r1; have b0 := b.r0; have b1 := b.r1
  obtain ⟨e1, e2⟩ := div_eq2 (S := 2) (by split <;> omega) (by split <;> omega) e
  obtain ⟨e3, e4⟩ := div_eq2 (S := 2) (by split <;> omega) (by split <;> omega) e2
  obtain ⟨e5, e6⟩ := div_eq2 (S := R) (by omega) (by omega) e4
  have e7 := enc_inj (a.s0.app a.s1) (b.s0.app b.s1) (by rw [List.length_append, List.length_append, a.l0, a.l1, b.l0, b.l1]) e6
  obtain ⟨e8, e9⟩ := List.append_inj e7 (a.l0.trans b.l0.symm)
  obtain ⟨f, row, ri, h0, h1⟩ := h
  obtain ⟨f', row', ri', h0', h1'⟩ := h'
  simp only at *
  rw [e8, e9, show row = row' by omega]
  congr 1
  · cases f <;> cases f' <;> simp_all
  · cases ri <;> cases ri' <;> simp_all
/-- not more than so many were seen, none twice -/
theorem seen_le {l : List Hv} (ok : ∀ x ∈ l, HvOk R S L x) (nd : l.Pairwise (· ≠ ·)) : l.length ≤ 4 * (R * S ^ (L + L)) := by
  rcases Nat.lt_or_ge (4 * (R * S ^ (L + L))) l.length with z | z
  · exfalso
    have hg : ∀ i, i < l.length → ∃ x, l[i]? = some x ∧ HvOk R S L x := fun i hi => ⟨l[i], List.getElem?_eq_getElem hi, ok _ (List.getElem_mem hi)⟩
    obtain ⟨i, j, ij, jn, q⟩ := pig (4 * (R * S ^ (L + L))) (fun i => ((l[i]?).map (Hv.code R S)).getD 0) fun i li => by
      obtain ⟨x, hx, ox⟩ := hg i (by omega)
      show ((l[i]?).map (Hv.code R S)).getD 0 < _
      rw [hx]
      exact ox.code_lt
    obtain ⟨x, hx, ox⟩ := hg i (by omega)
    obtain ⟨y, hy, oy⟩ := hg j (by omega)
    have q : ((l[i]?).map (Hv.code R S)).getD 0 = ((l[j]?).map (Hv.code R S)).getD 0 := q
    rw [hx, hy] at q
    have e := ox.code_inj oy q
    have li : i < l.length := by omega
    have lj : j < l.length := by omega
    refine List.pairwise_iff_getElem.mp nd i j li lj ij ?_
    rw [List.getElem?_eq_getElem li] at hx
    rw [List.getElem?_eq_getElem lj] at hy
    cases hx; cases hy; exact e
  · exact z
end
/-! ### turned about -/
def revB (b : Bs) : Bs := ⟨b.s.reverse, (b.s.length : Int) - 1 - b.p, b.r⟩
def revX (w : TStr) (L : Nat) (x : Int) : Int := if w = tEnd then (L : Int) - 1 - x else 0 - x
def ThR.rev : ThR → ThR
  | .stay => .stay
  | .fin w s r x n => .fin w s.reverse r (revX w s.length x) n
section
variable {M : Mach} {R S L : Nat} {b c : Bs}
theorem sgB_rev (h : BOk R S L b) : sgB (revB b) = sgB b := by
  have l := h.len; have p0 := h.p0; have p1 := h.p1
  show (b.s.reverse[((b.s.length : Int) - 1 - b.p).toNat]?).getD 0 = _
  rw [List.getElem?_reverse (by omega)]
  show _ = (b.s[b.p.toNat]?).getD 0
  congr 2; omega
theorem set_rev {s : List Int} {p v : Int} (p0 : 0 ≤ p) (p1 : p < s.length) : s.reverse.set ((s.length : Int) - 1 - p).toNat v = (s.set p.toNat v).reverse := by
  refine List.ext_getElem? fun i => ?_
  by_cases hi : i < s.length
  · rw [List.getElem?_reverse (by rw [List.length_set]; exact hi), List.length_set, List.getElem?_set, List.getElem?_set, List.length_reverse, List.getElem?_reverse hi]
    by_cases e : ((s.length : Int) - 1 - p).toNat = i
    · rw [if_pos e, if_pos (by omega), if_pos (by omega), if_pos (by omega)]
    · rw [if_neg e, if_neg (by omega)]
  · rw [List.getElem?_eq_none (by rw [List.length_set, List.length_reverse]; omega), List.getElem?_eq_none (by rw [List.length_reverse, List.length_set]; omega)]
theorem entAt_mir (hM : MOk M R S) (h : BOk R S L b) : entAt (mirM M) b.r (sgB b) = mirE (entAt M b.r (sgB b)) := by
  obtain ⟨row, h1, h2, _⟩ := ent_of hM h.r0 h.r1 h.sgB.2.1 h.sgB.2.2
  show ((((M.map fun row => row.map mirE)[b.r.toNat]?).getD [])[(sgB b).toNat]?).getD .emp = _
  rw [List.getElem?_map, h1]
  show ((row.map mirE)[(sgB b).toNat]?).getD .emp = _
  rw [List.getElem?_map, h2]
  rfl
theorem bn_rev (hM : MOk M R S) (h : BOk R S L b) : bn (mirM M) (revB b) = match bn M b with
    | .nxt c => .nxt (revB c)
    | .lv w s r x d => .lv w s.reverse r (revX w L x) d := by
  have l := h.len; have p0 := h.p0; have p1 := h.p1
  have eo := h.ent hM
  have em : entAt (mirM M) (revB b).r (sgB (revB b)) = mirE (entAt M b.r (sgB b)) := by rw [sgB_rev h]; exact entAt_mir hM h
  cases ee : entAt M b.r (sgB b) with
  | emp =>
    rw [ee] at em
    rw [bn_emp ee, bn_emp em]
    show Bn.lv tEnd b.s.reverse b.r ((b.s.length : Int) - 1 - b.p) 0 = Bn.lv tEnd b.s.reverse b.r (revX tEnd L b.p) 0
    unfold revX
    rw [if_pos rfl, l]
  | go pu wa to =>
    rw [ee] at em eo
    have em : entAt (mirM M) (revB b).r (sgB (revB b)) = .go pu (0 - wa) to := em
    obtain ⟨o1, o2, o3⟩ := eo.ok _ _ _ rfl
    have sr : (revB b).s.set (revB b).p.toNat pu = (b.s.set b.p.toNat pu).reverse := set_rev p0 (by omega)
    have lr : ((revB b).s.length : Int) = b.s.length := by show (b.s.reverse.length : Int) = _; rw [List.length_reverse]
    have pr : (revB b).p = (b.s.length : Int) - 1 - b.p := rfl
    by_cases z : 0 ≤ b.p + wa ∧ b.p + wa < (b.s.length : Int)
    · rw [bn_go ee z, bn_go em (by rw [lr, pr]; omega), sr]
      have e1 : ((b.s.length : Int) - 1 - b.p) + (0 - wa) = (((b.s.set b.p.toNat pu).length : Nat) : Int) - 1 - (b.p + wa) := by rw [List.length_set]; omega
      show Bn.nxt ⟨_, ((b.s.length : Int) - 1 - b.p) + (0 - wa), to⟩ = _
      rw [e1]
      rfl
    · rw [bn_out ee z, bn_out em (by rw [lr, pr]; omega), sr]
      show Bn.lv tOut _ to (0 - wa) 1 = Bn.lv tOut _ to (revX tOut L wa) 1
      unfold revX
      rw [if_neg (by decide +kernel)]
theorem bgo_rev (hM : MOk M R S) : ∀ (n : Nat) (b : Bs) (k : Int), BOk R S L b → bgo (mirM M) n (revB b) k = (bgo M n b k).rev
  | 0, b, k, h => rfl
  | n + 1, b, k, h => by
    have z := bn_rev hM h
    cases eb : bn M b with
    | nxt c =>
      rw [eb] at z
      rw [bgo_nxt eb, bgo_nxt z]
      exact bgo_rev hM n c (k + 1) (bn_ok h hM eb)
    | lv w s r x d =>
      rw [eb] at z
      rw [bgo_lv eb, bgo_lv z]
      have ls : s.length = L := by
        cases ee : entAt M b.r (sgB b) with
        | emp => rw [bn_emp ee] at eb; cases eb; exact h.len
        | go pu wa to =>
          by_cases z : 0 ≤ b.p + wa ∧ b.p + wa < (b.s.length : Int)
          · rw [bn_go ee z] at eb; cases eb
          · rw [bn_out ee z] at eb; cases eb; rw [List.length_set]; exact h.len
      show ThR.fin w s.reverse r (revX w L x) (k + d) = ThR.fin w s.reverse r (revX w s.length x) (k + d)
      rw [ls]
theorem thr_rev {s : List Int} {row : Int} {far : Bool} (hM : MOk M R S) (h : SOk S s) (l : 1 ≤ s.length) (r0 : 0 ≤ row) (r1 : row < R) : thr (mirM M) R S s.reverse row (!far) = (thr M R S s row far).rev := by
  have e : st0 s.reverse row (!far) = revB (st0 s row far) := by
    unfold st0 revB
    rw [List.length_reverse]
    cases far
    · show (⟨_, (s.length : Int) - 1, row⟩ : Bs) = ⟨_, (s.length : Int) - 1 - 0, row⟩; congr 1; omega
    · show (⟨_, 0, row⟩ : Bs) = ⟨_, (s.length : Int) - 1 - ((s.length : Int) - 1), row⟩; congr 1; omega
  unfold thr
  rw [e, List.length_reverse]
  exact bgo_rev hM _ _ 0 (st0_ok h l r0 r1)
end
/-! ### what is told of a block, as a datum -/
theorem all_ints {H : Hp} : ∀ s : List Int, IsAll H (s.map V.int) s := fun s => ⟨by rw [List.length_map], fun i x y h k => by
  rw [List.getElem?_map, k] at h
  cases h; rfl⟩
def ThR.py : ThR → PyData
  | .stay => .tuple [.str tStay.x]
  | .fin w s r x n => .tuple [.str w.x, .tuple (s.map .int), .int r, .int x, .int n]
def ThR.rep (H : Hp) (v : V) : ThR → Prop
  | .stay => ∃ p, v = .ref p ∧ H p = some (.tup [.str tStay.x])
  | .fin w s r x n => ∃ p q, v = .ref p ∧ H p = some (.tup [.str w.x, .ref q, .int r, .int x, .int n]) ∧ H q = some (.tup (s.map V.int))
theorem can_ints (s : List Int) : PyData.canLayAll0 (s.map .int) = true := can_all (α := Int) s
theorem depth_ints (s : List Int) : PyData.depthAll (s.map .int) ≤ 0 := depth_all (α := Int) s
theorem eqv_ints (a b : List Int) : PyData.eqvAll (a.map .int) (b.map .int) = true ↔ a = b := eqv_all (α := Int) a b
instance : Dat ThR where
  rep := ThR.rep
  mono := fun {H H' v d} s h => by
    cases d with
    | stay => obtain ⟨p, e, h⟩ := h; exact ⟨p, e, s _ _ h⟩
    | fin w l r x n => obtain ⟨p, q, e, h, k⟩ := h; exact ⟨p, q, e, s _ _ h, s _ _ k⟩
  py := ThR.py
  dp := fun {K H v d} h => by
    cases d with
    | stay => obtain ⟨p, rfl, h⟩ := h; exact .tup (SqT.of h) (.cons (.str _) .nil)
    | fin w l r x n =>
      obtain ⟨p, q, rfl, h, k⟩ := h
      exact .tup (SqT.of h) (.cons (.str _) (.cons (.tup (SqT.of k) (dp_all (α := Int) (all_ints l))) (.cons (.int _) (.cons (.int _) (.cons (.int _) .nil)))))
  can := fun d => by
    cases d with
    | stay => decide +kernel
    | fin w l r x n =>
      show (PyData.canLay0 (.str w.x) && (PyData.canLayAll0 (l.map .int) && (true && (true && (true && true))))) = true
      rw [show PyData.canLay0 (.str w.x) = true from w.ok, can_ints]
      rfl
  dep := 2
  depth := fun d => by
    cases d with
    | stay => decide +kernel
    | fin w l r x n =>
      have h := depth_ints l
      show max 0 (max (PyData.depthAll (l.map .int) + 1) (max 0 (max 0 (max 0 0)))) + 1 ≤ 2
      omega
  eqv := fun a b => by
    cases a with
    | stay =>
      cases b with
      | stay => simp [ThR.py, PyData.eqv, PyData.eqvAll]
      | fin w l r x n => simp [ThR.py, PyData.eqv, PyData.eqvAll]
    | fin w l r x n =>
      cases b with
      | stay => simp [ThR.py, PyData.eqv, PyData.eqvAll]
      | fin w' l' r' x' n' =>
        obtain ⟨wx, wo⟩ := w
        obtain ⟨wx', wo'⟩ := w'
        simp only [ThR.py, PyData.eqv, PyData.eqvAll, Bool.and_eq_true, eqv_ints, decide_eq_true_eq, beq_iff_eq, ThR.fin.injEq, TStr.mk.injEq, and_true]
theorem units65 {k : Nat} {A : Around} (r : Room k A) : A.units + 65 < cLine := by have := r.un; omega
/-! ### most_setups, through -/
theorem int_eq2 {a b : Int} : decide (V.int a = V.int b) = decide (a = b) := by
  by_cases h : a = b
  · subst h; rw [decide_eq_true rfl, decide_eq_true rfl]
  · rw [decide_eq_false h, decide_eq_false fun e => h (V.int.inj e)]
theorem most_le {R S L : Nat} (hR : R ≤ 4) (hS : S ≤ 4) (hL : L ≤ 8) {i : Nat} (hi : i ≤ L) : R * L * S ^ i ≤ 2097152 := by
  have a : S ^ i ≤ 4 ^ 8 := Nat.le_trans (Nat.pow_le_pow_left hS i) (Nat.pow_le_pow_right (by decide) (by omega))
  have b : R * L ≤ 4 * 8 := Nat.mul_le_mul hR hL
  exact Nat.le_trans (Nat.mul_le_mul b a) (by decide)
def sp_most_setups : Sp := fun vs H Q _ => ∃ (F : Hp) (m : V) (b : Addr) (M : Mach) (R S : Nat) (s : List Int), vs = [m, .ref b] ∧ Same F H ∧ Is F m M ∧ MOk M R S ∧ F b = some (.tup (s.map V.int)) ∧ s.length ≤ 8 ∧ Q (.int (mostB R S s.length : Nat)) H
theorem ok_most_setups (t : Tx K mg) : FnOk P w K mg base CX0 1 t.a_most_setups t.fd_most_setups ["machine", "block"] sp_most_setups := by
  refine t.F_most_setups.ok sc_most_setups (fun vs H Q E h => ?_) (fun cdv A outer s H vs Q E hr h => ?_)
  · obtain ⟨F, m, b, M, R, S, ss, rfl, _⟩ := h
    rfl
  · obtain ⟨F, m, b, M, R, S, ss, rfl, sF, hm, hM, hb, l8, q⟩ := h
    refine ⟨_, (pss_cons (ps_set (i := 2) sc_most_setups.nd rfl (by first | exact Or.inl rfl | exact Or.inr rfl) (pe_op op_mul (pe_callB (id := "len") call_lenQ (by rfl) t.n_len (by decide +kernel) (pa_cons (pv 0) pa_nil)) (pe_callB (id := "len") call_lenQ (by rfl) t.n_len (by decide +kernel) (pa_cons (pv 1) pa_nil))))
      (pss_cons (ps_for PassesOwn.never rfl (pi_tup (pv 1)) (pg_name (i := 3) sc_most_setups.nd rfl (by first | exact Or.inl rfl | exact Or.inr rfl)) (pss_one (ps_set (i := 2) sc_most_setups.nd rfl (by first | exact Or.inl rfl | exact Or.inr rfl) (pe_op op_mul (pv 2) (pe_callB (id := "len") call_lenQ (by rfl) t.n_len (by decide +kernel) (pa_cons (pe_ix ix_list (pv 0) pe_int (fun _ _ => rfl)) pa_nil))))))
      (pss_one (ps_ret (pv 2))))), ?_⟩
    obtain ⟨am, rs, rfl, ha, hrs⟩ := hm
    have lrs : rs.length = R := hrs.1.trans hM.len
    have r1 := hM.r1; have r4 := hM.r4; have s2 := hM.s2; have s4 := hM.s4
    have hx0 : rs[0]? = some rs[0] := List.getElem?_eq_getElem (by omega)
    obtain ⟨row0, hM0, a0, es0, e0, ha0, hes0⟩ := hrs.get' hx0
    have ls0 : es0.length = S := hes0.1.trans (hM.row _ (List.mem_of_getElem? hM0))
    have lb : (ss.map V.int).length = ss.length := List.length_map ..
    refine ⟨_, rfl, am, rs, rfl, .inl (SqL.of (sF _ _ ha)), _, rfl, b, _, rfl, .inr (SqT.of (sF _ _ hb)), _, _, rfl, rfl, .inl ⟨by omega, by omega⟩, ?_⟩
    refine ⟨_, rfl, b, rfl, ⟨_, SqT.of (sF _ _ hb)⟩, for_tup (K := K) (a := b) (xs := ss.map V.int) (fun i σ G => ∃ v3 : Option V, σ = [some (.ref am), some (.ref b), some (.int (R * ss.length * S ^ i : Nat)), v3] ∧ G = H)
      ⟨none, by rw [lrs, lb, Nat.pow_zero, Nat.mul_one, Int.natCast_mul]; rfl, rfl⟩ (fun i σ G _ ⟨_, _, e⟩ => by rw [e]; exact SqT.of (sF _ _ hb)) ?_ ?_⟩
    · rintro i x σ G hi ⟨v3, rfl, rfl⟩
      have il : i < ss.length := by have := (List.getElem?_eq_some_iff.mp hi).1; omega
      have bd := most_le r4 s4 l8 (Nat.le_of_lt il)
      refine ⟨_, rfl, _, rfl, am, rs, _, _, rfl, rfl, SqL.of (sF _ _ ha), atI_nat (j := 0) hx0, ?_⟩
      rw [e0]
      refine ⟨a0, es0, rfl, .inl (SqL.of (sF _ _ ha0)), _, _, rfl, rfl, .inl ⟨by omega, by omega⟩, some x, ?_, rfl⟩
      rw [ls0, Nat.pow_succ, ← Nat.mul_assoc]
      rfl
    · rintro σ G ⟨v3, rfl, rfl⟩
      rw [lb]
      exact ⟨_, rfl, q⟩
def sp_through : Sp := fun vs H Q _ => ∃ (F : Hp) (m : V) (b : Addr) (M : Mach) (R S : Nat) (s : List Int) (row side : Int), vs = [m, .ref b, .int row, .int side] ∧ Same F H ∧ Is F m M ∧ MOk M R S ∧ F b = some (.tup (s.map V.int)) ∧ SOk S s ∧ 1 ≤ s.length ∧ s.length ≤ 8 ∧ 0 ≤ row ∧ row < R ∧
  ∀ (F' H' : Hp) (v : V), Gr mu0 F H F' H' → Is F' v (thr M R S s row (decide (side = 1))) → Q v H'
theorem ok_through (t : Tx K mg) : FnOk P w K mg base CX0 4 t.a_through t.fd_through ["machine", "block", "row", "side"] sp_through := by
  refine t.F_through.ok sc_through (fun vs H Q E h => ?_) (fun cdv A outer s H vs Q E hr h => ?_)
  · obtain ⟨F, m, b, M, R, S, ss, row, side, rfl, _⟩ := h
    rfl
  · obtain ⟨F, m, b, M, R, S, ss, row, side, rfl, sF, hm, hM, hb, hs, l1, l8, r0, r1, q⟩ := h
    refine ⟨_, (pss_cons (ps_expr (pe_call (ok_must_machine t) (hr.mono (by decide)) (by rfl) t.m_must_machine t.F_must_machine.kp t.b_must_machine .nil pass0 (pa_cons (pv 0) pa_nil)))
      (pss_cons (ps_set (i := 4) sc_through.nd rfl (by first | exact Or.inl rfl | exact Or.inr rfl) (pe_callTy (T := "list") call_listQ (by rfl) t.n_list (by decide +kernel) (pa_cons (pv 1) pa_nil)))
      (pss_cons (ps_set (i := 5) sc_through.nd rfl (by first | exact Or.inl rfl | exact Or.inr rfl) pe_int)
      (pss_cons (ps_if (pt_cmpR op_eq (pv 3) pe_int (nomark _)) (pss_one (ps_set (i := 5) sc_through.nd rfl (by first | exact Or.inl rfl | exact Or.inr rfl) (pe_op op_sub (pe_callB (id := "len") call_lenQ (by rfl) t.n_len (by decide +kernel) (pa_cons (pv 4) pa_nil)) pe_int))) pss_nil)
      (pss_cons (ps_for PassesOwn.never rfl (pi_range1 (by rfl) t.n_range (pa_cons (pe_op op_add (pe_call (ok_most_setups t) (hr.mono (by decide)) (by rfl) t.m_most_setups t.F_most_setups.kp t.b_most_setups .nil pass0 (pa_cons (pv 0) (pa_cons (pv 1) pa_nil))) pe_int) pa_nil)) (pg_name (i := 6) sc_through.nd rfl (by first | exact Or.inl rfl | exact Or.inr rfl)) (pss_cons (ps_set (i := 7) sc_through.nd rfl (by first | exact Or.inl rfl | exact Or.inr rfl) (pe_ix ix_list (pe_ix ix_list (pv 0) (pv 2) (fun _ _ => rfl)) (pe_ix ix_list (pv 4) (pv 5) (fun _ _ => rfl)) (fun _ _ => rfl)))
      (pss_cons (ps_if (pt_cmpR (op_eqD hr.units) (pv 7) (pe_tup pa_nil) (nomark _)) (pss_one (ps_ret (pe_tup (pa_cons pe_str (pa_cons (pe_callTy (T := "tuple") call_tupQ (by rfl) t.n_tuple (by decide +kernel) (pa_cons (pv 4) pa_nil)) (pa_cons (pv 2) (pa_cons (pv 5) (pa_cons (pv 6) pa_nil)))))))) pss_nil)
      (pss_cons (ps_asg (pe_ix ix_tup (pv 7) pe_int (fun _ _ => rfl)) (pg_sub (pv 4) (pv 5) set_list))
      (pss_cons (ps_aug (i := 5) sc_through.nd rfl (by first | exact Or.inl rfl | exact Or.inr rfl) (pe_ix ix_tup (pv 7) pe_int (fun _ _ => rfl)) ip_add)
      (pss_cons (ps_set (i := 2) sc_through.nd rfl (by first | exact Or.inl rfl | exact Or.inr rfl) (pe_ix ix_tup (pv 7) pe_int (fun _ _ => rfl)))
      (pss_one (ps_if (pt_not (pt_chain op_le op_lt pe_int (pv 5) (pe_callB (id := "len") call_lenQ (by rfl) t.n_len (by decide +kernel) (pa_cons (pv 4) pa_nil)))) (pss_one (ps_ret (pe_tup (pa_cons pe_str (pa_cons (pe_callTy (T := "tuple") call_tupQ (by rfl) t.n_tuple (by decide +kernel) (pa_cons (pv 4) pa_nil)) (pa_cons (pv 2) (pa_cons (pe_ix ix_tup (pv 7) pe_int (fun _ _ => rfl)) (pa_cons (pe_op op_add (pv 6) pe_int) pa_nil)))))))) pss_nil))))))))
      (pss_one (ps_ret (pe_tup (pa_cons pe_str pa_nil))))))))), ?_⟩
    refine ⟨_, rfl, F, m, M, R, S, rfl, sF, hm, hM, fun H1 g1 => ?_⟩
    refine ⟨_, rfl, b, _, rfl, .inr (SqT.of (g1.fh _ _ hb)), fun l nl => ?_⟩
    have g2 := g1.own (o := .lst (ss.map V.int)) nl
    have w2 : Ow H F (upd H1 l (.lst (ss.map V.int))) l (.lst (ss.map V.int)) := Ow.mk1 g1 nl
    generalize upd H1 l (.lst (ss.map V.int)) = H2 at g2 w2 ⊢
    refine ⟨_, rfl, rfl, _, rfl, ?_⟩
    rw [int_eq2]
    have lb : (ss.map V.int).length = ss.length := List.length_map ..
    have mb := most_le (S := S) hM.r4 hM.s4 l8 (Nat.le_refl _)
    refine ite2 (fun c => ?A) (fun c => ?B)
    case' A =>
      refine ⟨_, rfl, l, _, rfl, .inl (SqL.of w2.h), _, _, rfl, rfl, ?_⟩
      have ep : (st0 ss row (decide (side = 1))).p = ((ss.map V.int).length : Int) - 1 := by rw [lb]; unfold st0; rw [if_pos c]
    case' B =>
      have ep : (st0 ss row (decide (side = 1))).p = 0 := by unfold st0; rw [if_neg c]
    all_goals
      refine ⟨_, rfl, _, rfl, F, m, b, M, R, S, ss, rfl, g2.fh, hm, hM, hb, l8, _, _, rfl, rfl, ((mostB R S ss.length : Nat) : Int) + 1, rfl, by omega, by unfold mostB; omega, ?_⟩
      refine for_range (lo := 0) (n := (((mostB R S ss.length : Nat) : Int) + 1).toNat) (fun i σ G => ∃ (c : Bs) (v6 v7 : Option V), σ = [some m, some (.ref b), some (.int c.r), some (.int side), some (.ref l), some (.int c.p), v6, v7] ∧ Gr mu0 F H F G ∧ Ow H F G l (.lst (c.s.map V.int)) ∧ BOk R S ss.length c ∧ thr M R S ss row (decide (side = 1)) = bgo M (mostB R S ss.length + 1 - i) c i)
        ⟨st0 ss row (decide (side = 1)), none, none, by rw [ep]; rfl, g2, w2, st0_ok hs l1 r0 r1, rfl⟩ ?_ ?_
      · rintro i σ G hi ⟨c, v6, v7, rfl, g, w, ok, et⟩
        have en : mostB R S ss.length + 1 - i = (mostB R S ss.length - i) + 1 := by omega
        rw [en] at et
        have lc := ok.len
        have c0 := ok.p0
        have c1 := ok.p1
        obtain ⟨rw', hrw, he, eo⟩ := ent_of hM ok.r0 ok.r1 ok.sgB.2.1 ok.sgB.2.2
        obtain ⟨am, rs, rfl, ha, hrs⟩ := id hm
        obtain ⟨y, hy, bm, es', rfl, hbm, hes⟩ := hrs.get hrw
        obtain ⟨z, hz, hze⟩ := hes.get he
        have hsg : (c.s.map V.int)[c.p.toNat]? = some (.int (sgB c)) := by rw [List.getElem?_map, ok.sgB.1]; rfl
        refine ⟨_, rfl, _, rfl, am, rs, _, _, rfl, rfl, SqL.of (g.fh _ _ ha), at_of (Int.toNat_of_nonneg ok.r0).symm hy, ?_⟩
        refine ⟨_, rfl, _, rfl, l, _, _, _, rfl, rfl, SqL.of w.h, at_of (Int.toNat_of_nonneg c0).symm hsg, bm, es', _, _, rfl, rfl, SqL.of (g.fh _ _ hbm), at_of (Int.toNat_of_nonneg ok.sgB.2.1).symm hz, ?_⟩
        refine ⟨_, rfl, nil_le, fun e1 ne1 => ?_⟩
        have gg := g.own (o := .tup []) ne1
        have ww := w.own (u := .tup []) ne1
        refine eq_dat (a := entAt M c.r (sgB c)) (b := Ent.emp) (hze.up gg.fh) ⟨e1, rfl, upd_same⟩ ⟨_, rfl, ?_⟩
        generalize upd G e1 (.tup []) = G1 at gg ww ⊢
        -- what is told when it leaves
        have fin : ∀ (s' : List Int) (tg : TStr) (r x n : Int) (G2 : Hp), Gr mu0 F H F G2 → thr M R S ss row (decide (side = 1)) = .fin tg s' r x n → ∀ p, G2 p = none → ∀ u, upd G2 p (.tup (s'.map V.int)) u = none → Q (.ref u) (upd (upd G2 p (.tup (s'.map V.int))) u (.tup [.str tg.x, .ref p, .int r, .int x, .int n])) := by
          intro s' tg r x n G2 k e p np u nu
          have k1 := k.new (o := .tup (s'.map V.int)) np
          have n2 : (upd F p (.tup (s'.map V.int))) u = none := k1.fh.free nu
          refine q _ _ (.ref u) (k1.new (o := .tup [.str tg.x, .ref p, .int r, .int x, .int n]) nu) ?_
          rw [e]
          exact ⟨u, p, rfl, upd_same, ln n2 upd_same⟩
        cases ee : entAt M c.r (sgB c) with
        | emp =>
          refine ifT (decide_eq_true rfl) ⟨_, rfl, l, _, rfl, .inl ⟨SqL.of ww.h, fun p np => ⟨_, rfl, _, rfl, _, rfl, five_le, fun u nu => ?_⟩⟩⟩
          refine fin c.s tEnd c.r c.p _ G1 gg ?_ p np u nu
          rw [et, bgo_lv (bn_emp ee)]
          congr 1; omega
        | go pu wa to =>
          rw [ee] at hze eo
          obtain ⟨o1, o2, o3⟩ := eo.ok _ _ _ rfl
          obtain ⟨ae, rfl, hae⟩ := hze
          have hae1 := gg.fh _ _ hae
          refine ifF (decide_eq_false (by intro z; cases z)) ?_
          refine ⟨_, rfl, ae, _, _, _, rfl, rfl, SqT.of hae1, atI_nat (j := 0) rfl, _, rfl, _, rfl, l, _, _, c.p.toNat, rfl, rfl, ww.h, ixN_of c0 (by rw [List.length_map]; omega), ?_⟩
          have g3 := gg.set (o := .lst ((c.s.map V.int).set c.p.toNat (.int pu))) ww.f (.inl ww.n)
          have w3 := ww.set (u := .lst ((c.s.map V.int).set c.p.toNat (.int pu)))
          rw [← List.map_set] at g3 w3 ⊢
          generalize upd G1 l (.lst ((c.s.set c.p.toNat pu).map V.int)) = G3 at g3 w3 ⊢
          have hae3 := g3.fh _ _ hae
          refine ⟨_, rfl, _, rfl, ae, _, _, _, rfl, rfl, SqT.of hae3, atI_nat (j := 1) rfl, _, _, rfl, rfl, ?_⟩
          refine ⟨_, rfl, ae, _, _, _, rfl, rfl, SqT.of hae3, atI_nat (j := 2) rfl, ?_⟩
          have ll : ((c.s.set c.p.toNat pu).map V.int).length = c.s.length := by rw [List.length_map, List.length_set]
          refine ⟨_, rfl, _, _, rfl, rfl, _, rfl, ?_⟩
          by_cases z : 0 ≤ c.p + wa ∧ c.p + wa < (c.s.length : Int)
          · refine ifT (decide_eq_true z.1) ⟨_, rfl, l, _, rfl, .inl (SqL.of w3.h), _, _, rfl, rfl, _, rfl, ?_⟩
            refine ifF (by rw [ll, decide_eq_true z.2]; rfl) ?_
            refine ⟨⟨c.s.set c.p.toNat pu, c.p + wa, to⟩, _, _, rfl, g3, w3, bn_ok ok hM (bn_go ee z), ?_⟩
            rw [et, bgo_nxt (bn_go ee z), show mostB R S ss.length + 1 - (i + 1) = mostB R S ss.length - i by omega]
            congr 1
          · by_cases k : 0 ≤ c.p + wa
            · refine ifT (decide_eq_true k) ⟨_, rfl, l, _, rfl, .inl (SqL.of w3.h), _, _, rfl, rfl, _, rfl, ?_⟩
              refine ifT (by rw [ll, decide_eq_false (fun y => z ⟨k, y⟩)]; rfl) ?_
              refine ⟨_, rfl, l, _, rfl, .inl ⟨SqL.of w3.h, fun p np => ⟨_, rfl, _, rfl, ae, _, _, _, rfl, rfl, SqT.of (ln np hae3), atI_nat (j := 1) rfl, _, rfl, _, _, rfl, rfl, five_le, fun u nu => ?_⟩⟩⟩
              refine fin (c.s.set c.p.toNat pu) tOut to wa _ G3 g3 ?_ p np u nu
              rw [et, bgo_lv (bn_out ee z)]
              congr 1; omega
            · refine ifF (decide_eq_false k) ⟨_, rfl, ?_⟩
              refine ifT rfl ?_
              refine ⟨_, rfl, l, _, rfl, .inl ⟨SqL.of w3.h, fun p np => ⟨_, rfl, _, rfl, ae, _, _, _, rfl, rfl, SqT.of (ln np hae3), atI_nat (j := 1) rfl, _, rfl, _, _, rfl, rfl, five_le, fun u nu => ?_⟩⟩⟩
              refine fin (c.s.set c.p.toNat pu) tOut to wa _ G3 g3 ?_ p np u nu
              rw [et, bgo_lv (bn_out ee z)]
              congr 1; omega
      · rintro σ G ⟨c, v6, v7, rfl, g, w, ok, et⟩
        refine ⟨one_le, fun u nu => ?_⟩
        refine q _ _ (.ref u) (g.new (o := .tup [.str tStay.x]) nu) ?_
        rw [et, show mostB R S ss.length + 1 - (((mostB R S ss.length : Nat) : Int) + 1).toNat = 0 by omega]
        exact ⟨u, rfl, upd_same⟩
/-! ### strips told, whatever keeps them (plain) -/
structure IsSt (l : List PI) (f : Int → Int) : Prop where
  rise : l.Pairwise (fun p q => p.a < q.a)
  mem : ∀ x s, (⟨x, s⟩ : PI) ∈ l ↔ (f x = s ∧ s ≠ 0)
theorem IsSt.nz {l : List PI} {f : Int → Int} (h : IsSt l f) {p : PI} (m : p ∈ l) : f p.a = p.b ∧ p.b ≠ 0 := (h.mem p.a p.b).mp m
theorem rise_eq : ∀ {l m : List PI}, l.Pairwise (fun p q => p.a < q.a) → m.Pairwise (fun p q => p.a < q.a) → (∀ p, p ∈ l ↔ p ∈ m) → l = m
  | [], [], _, _, _ => rfl
  | [], q :: m, _, _, h => nomatch (h q).mpr (List.mem_cons_self ..)
  | p :: l, [], _, _, h => nomatch (h p).mp (List.mem_cons_self ..)
  | p :: l, q :: m, hl, hm, h => by
    obtain ⟨hp, hl2⟩ := List.pairwise_cons.mp hl
    obtain ⟨hq, hm2⟩ := List.pairwise_cons.mp hm
    have e : p = q := by
      rcases List.mem_cons.mp ((h p).mp (List.mem_cons_self ..)) with e | m1
      · exact e
      · rcases List.mem_cons.mp ((h q).mpr (List.mem_cons_self ..)) with e | m2
        · exact e.symm
        · have a := hq p m1
          have b := hp q m2
          omega
    subst e
    congr 1
    refine rise_eq hl2 hm2 fun r => ⟨fun z => ?_, fun z => ?_⟩
    · rcases List.mem_cons.mp ((h r).mp (List.mem_cons_of_mem _ z)) with e | m1
      · subst e; have := hp _ z; omega
      · exact m1
    · rcases List.mem_cons.mp ((h r).mpr (List.mem_cons_of_mem _ z)) with e | m1
      · subst e; have := hq _ z; omega
      · exact m1
theorem IsSt.uniq {l m : List PI} {f : Int → Int} (h : IsSt l f) (k : IsSt m f) : l = m := rise_eq h.rise k.rise fun p => (h.mem p.a p.b).trans (k.mem p.a p.b).symm
/-- the sign at x of a strip kept by blocks of k -/
def fB (k : Nat) (B : Int → List Int) (x : Int) : Int := ((B (x / (k : Int)))[(x % (k : Int)).toNat]?).getD 0
def piece (base : Int) : List Int → List PI
  | [] => []
  | s :: r => (if s ≠ 0 then [⟨base, s⟩] else []) ++ piece (base + 1) r
theorem mem_piece : ∀ (s : List Int) (base x v : Int), (⟨x, v⟩ : PI) ∈ piece base s ↔ ∃ j : Nat, x = base + j ∧ s[j]? = some v ∧ v ≠ 0
  | [], base, x, v => by simp [piece]
  | s :: r, base, x, v => by
    rw [piece, List.mem_append, mem_piece r (base + 1) x v]
    constructor
    · rintro (h | ⟨j, h1, h2, h3⟩)
      · by_cases z : s ≠ 0
        · rw [if_pos z, List.mem_singleton] at h
          cases h
          exact ⟨0, by omega, rfl, z⟩
        · rw [if_neg z] at h; cases h
      · exact ⟨j + 1, by omega, h2, h3⟩
    · rintro ⟨j, h1, h2, h3⟩
      cases j with
      | zero =>
        cases h2
        refine .inl ?_
        rw [if_pos h3, List.mem_singleton, show x = base by omega]
      | succ j => exact .inr ⟨j, by omega, h2, h3⟩
theorem piece_rise : ∀ (s : List Int) (base : Int), (piece base s).Pairwise (fun p q => p.a < q.a)
  | [], _ => .nil
  | s :: r, base => by
    rw [piece, List.pairwise_append]
    refine ⟨by split <;> simp, piece_rise r (base + 1), fun p hp q hq => ?_⟩
    obtain ⟨x, v⟩ := q
    obtain ⟨j, h1, _, _⟩ := (mem_piece r (base + 1) x v).mp hq
    have : p.a = base := by
      split at hp
      · rw [List.mem_singleton.mp hp]
      · cases hp
    show p.a < x
    omega
theorem piece_snoc : ∀ (s : List Int) (base : Int) (v : Int), piece base (s ++ [v]) = piece base s ++ (if v ≠ 0 then [⟨base + s.length, v⟩] else [])
  | [], base, v => by
    show (if v ≠ 0 then ([⟨base, v⟩] : List PI) else []) ++ [] = [] ++ _
    rw [List.append_nil, List.nil_append, show base + ((([] : List Int).length : Nat) : Int) = base by simp]
  | s :: r, base, v => by
    rw [List.cons_append, piece, piece, piece_snoc r (base + 1) v, List.append_assoc]
    congr 2
    rw [show base + 1 + (r.length : Int) = base + ((s :: r).length : Int) by simp; omega]
def stripO (k : Nat) (B : Int → List Int) (ys : List Int) : List PI := ys.flatMap fun a => piece (a * k) (B a)
theorem strip_ok {k : Nat} (k1 : 1 ≤ k) {B : Int → List Int} (hB : ∀ a, (B a).length = k) {ys : List Int} (hy : ys.Pairwise (· < ·)) (out : ∀ a, a ∉ ys → ∀ v ∈ B a, v = 0) : IsSt (stripO k B ys) (fB k B) := by
  have pl : ∀ (a x v : Int), (⟨x, v⟩ : PI) ∈ piece (a * k) (B a) → a * k ≤ x ∧ x < a * k + k := fun a x v m => by
    obtain ⟨j, h1, h2, _⟩ := (mem_piece _ _ x v).mp m
    have := (List.getElem?_eq_some_iff.mp h2).1
    rw [hB] at this
    omega
  refine ⟨?_, fun x s => ?_⟩
  · unfold stripO
    rw [List.pairwise_flatMap]
    refine ⟨fun a _ => piece_rise _ _, hy.imp fun {a b} ab p hp q hq => ?_⟩
    obtain ⟨x, v⟩ := p
    obtain ⟨y, u⟩ := q
    have h1 := pl a x v hp
    have h2 := pl b y u hq
    show x < y
    have : (a + 1) * (k : Int) ≤ b * k := Int.mul_le_mul_of_nonneg_right (by omega) (by omega)
    rw [Int.add_mul, Int.one_mul] at this
    omega
  · unfold stripO
    rw [List.mem_flatMap]
    have km : (k : Int) ≠ 0 := by omega
    have hd := Int.mul_ediv_add_emod x k
    have h0 := Int.emod_nonneg x km
    have h1 := Int.emod_lt_of_pos x (show (0 : Int) < k by omega)
    have hc := Int.mul_comm (x / (k : Int)) k
    constructor
    · rintro ⟨a, ha, hm⟩
      have hp := pl a x s hm
      obtain ⟨j, e1, e2, e3⟩ := (mem_piece _ _ x s).mp hm
      have ea : x / (k : Int) = a := by
        have := (Int.ediv_emod_unique (a := x) (b := k) (r := j) (q := a) (by omega)).mpr ⟨by rw [Int.mul_comm]; omega, by omega, by omega⟩
        exact this.1
      have ej : x % (k : Int) = j := by
        have := (Int.ediv_emod_unique (a := x) (b := k) (r := j) (q := a) (by omega)).mpr ⟨by rw [Int.mul_comm]; omega, by omega, by omega⟩
        exact this.2
      refine ⟨?_, e3⟩
      unfold fB
      rw [ea, ej, Int.toNat_natCast, e2]; rfl
    · rintro ⟨hf, hs⟩
      have l : (x % (k : Int)).toNat < (B (x / (k : Int))).length := by rw [hB]; omega
      have e : (B (x / (k : Int)))[(x % (k : Int)).toNat]? = some s := by
        rw [List.getElem?_eq_getElem l]
        unfold fB at hf
        rw [List.getElem?_eq_getElem l] at hf
        exact congrArg some hf
      refine ⟨x / (k : Int), ?_, (mem_piece _ _ x s).mpr ⟨(x % (k : Int)).toNat, by omega, e, hs⟩⟩
      by_cases z : x / (k : Int) ∈ ys
      · exact z
      · exact absurd (out _ z s (List.mem_of_getElem? e)) hs
/-! ### walks by blocks (plain) -/
structure Wk where
  B : Int → List Int
  at_ : Int
  row : Int
  far : Bool
  st : Int
def updB (B : Int → List Int) (a : Int) (s : List Int) : Int → List Int := fun x => if x = a then s else B x
def Wk.out (W : Wk) (s : List Int) (r wa m : Int) : Wk := ⟨updB W.B W.at_ s, W.at_ + wa, r, decide (-wa = 1), W.st + m⟩
def plB (k : Nat) (W : Wk) : Int := W.at_ * k + (if W.far then (k : Int) - 1 else 0)
structure ByR where
  w : TStr
  st : Int
  row : Int
  pl : Int
  B : Int → List Int
def tOnB : TStr := ⟨"on", by decide +kernel⟩
def byB (M : Mach) (R S k : Nat) : Nat → Wk → ByR
  | 0, W => ⟨tOnB, W.st, W.row, plB k W, W.B⟩
  | n + 1, W => match thr M R S (W.B W.at_) W.row W.far with
    | .stay => ⟨tStay, W.st, W.row, plB k W, W.B⟩
    | .fin w s r x m => if w = tEnd then ⟨tEnd, W.st + m, r, W.at_ * k + x, updB W.B W.at_ s⟩ else byB M R S k n (W.out s r x m)
theorem byB_stay {M : Mach} {R S k n : Nat} {W : Wk} (e : thr M R S (W.B W.at_) W.row W.far = .stay) : byB M R S k (n + 1) W = ⟨tStay, W.st, W.row, plB k W, W.B⟩ := by
  rw [byB, e]
theorem byB_end {M : Mach} {R S k n : Nat} {W : Wk} {s : List Int} {r x m : Int} (e : thr M R S (W.B W.at_) W.row W.far = .fin tEnd s r x m) : byB M R S k (n + 1) W = ⟨tEnd, W.st + m, r, W.at_ * k + x, updB W.B W.at_ s⟩ := by
  rw [byB, e]
  exact if_pos rfl
theorem byB_out {M : Mach} {R S k n : Nat} {W : Wk} {s : List Int} {r x m : Int} (e : thr M R S (W.B W.at_) W.row W.far = .fin tOut s r x m) : byB M R S k (n + 1) W = byB M R S k n (W.out s r x m) := by
  rw [byB, e]
  exact if_neg (by decide +kernel)
structure OkW (R S k : Nat) (W : Wk) : Prop where
  len : ∀ a, (W.B a).length = k
  s : ∀ a, SOk S (W.B a)
  r0 : 0 ≤ W.row
  r1 : W.row < R
def W0 (k : Nat) : Wk := ⟨fun _ => List.replicate k 0, 0, 0, false, 0⟩
theorem W0_ok {R S k : Nat} (r1 : 1 ≤ R) (s1 : 1 ≤ S) : OkW R S k (W0 k) :=
  ⟨fun _ => List.length_replicate, fun _ x m => by rw [(List.mem_replicate.mp m).2]; omega, Int.le_refl 0, by show (0 : Int) < R; omega⟩
theorem updB_same {B : Int → List Int} {a : Int} {s : List Int} : updB B a s a = s := if_pos rfl
/-- what a way through a block leaves -/
theorem thr_ok {M : Mach} {R S : Nat} {s : List Int} {row : Int} {far : Bool} (hM : MOk M R S) (h : SOk S s) (l : 1 ≤ s.length) (r0 : 0 ≤ row) (r1 : row < R) {w s' r x m} (e : thr M R S s row far = .fin w s' r x m) :
    (w = tEnd ∨ w = tOut) ∧ s'.length = s.length ∧ SOk S s' ∧ (0 ≤ r ∧ r < R) ∧ 0 ≤ m ∧ (w = tEnd → 0 ≤ x ∧ x < s.length) ∧ (w = tOut → (x = -1 ∨ x = 1) ∧ 1 ≤ m) := by
  obtain ⟨i, c, d, t1, t2, t3⟩ := thr_fin e
  have okc := tj_ok hM i _ c (st0_ok (far := far) h l r0 r1) t1
  have eo := okc.ent hM
  cases ee : entAt M c.r (sgB c) with
  | emp =>
    rw [bn_emp ee] at t2
    cases t2
    exact ⟨.inl rfl, okc.len, okc.s, ⟨okc.r0, okc.r1⟩, by omega, fun _ => ⟨okc.p0, okc.p1⟩, fun z => absurd z (by decide +kernel)⟩
  | go pu wa to =>
    rw [ee] at eo
    obtain ⟨o1, o2, o3⟩ := eo.ok _ _ _ rfl
    by_cases z : 0 ≤ c.p + wa ∧ c.p + wa < (c.s.length : Int)
    · rw [bn_go ee z] at t2; cases t2
    · rw [bn_out ee z] at t2
      cases t2
      exact ⟨.inr rfl, by rw [List.length_set]; exact okc.len, okc.s.set o1, o3, by omega, fun z => absurd z.symm (by decide +kernel), fun _ => ⟨o2, by omega⟩⟩
theorem OkW.out {M : Mach} {R S k : Nat} {W : Wk} (h : OkW R S k W) (hM : MOk M R S) (k1 : 1 ≤ k) {s : List Int} {r x m : Int} (e : thr M R S (W.B W.at_) W.row W.far = .fin tOut s r x m) : OkW R S k (W.out s r x m) := by
  obtain ⟨_, h1, h2, h3, _⟩ := thr_ok hM (h.s _) (by rw [h.len]; exact k1) h.r0 h.r1 e
  refine ⟨fun a => ?_, fun a => ?_, h3.1, h3.2⟩
  · show (updB W.B W.at_ s a).length = k
    unfold updB
    split
    · rw [h1, h.len]
    · exact h.len a
  · show SOk S (updB W.B W.at_ s a)
    unfold updB
    split
    · exact h2
    · exact h.s a
/-! ### dicts from ints to data -/
abbrev DI (β : Type) := List (Int × V × β)
section
variable {β : Type}
def diK (L : DI β) : List (Key × V) := L.map fun t => (Sum.inl t.1, t.2.1)
def lkD (L : DI β) (x : Int) : Option β := (L.find? fun t => decide (t.1 = x)).map (·.2.2)
def ptD (L : DI β) (x : Int) (v : V) (d : β) : DI β := if (L.any fun t => decide (t.1 = x)) = true then L.map (fun t => if t.1 = x then (t.1, v, d) else t) else L ++ [(x, v, d)]
def DiIs [Dat β] (H : Hp) (L : DI β) : Prop := ∀ t ∈ L, Is H t.2.1 t.2.2
theorem DiIs.up [Dat β] {H H' : Hp} {L : DI β} (h : DiIs H L) (s : Same H H') : DiIs H' L := fun t m => Is.up (h t m) s
theorem lkD_cons (t : Int × V × β) (L : DI β) (x : Int) : lkD (t :: L) x = if t.1 = x then some t.2.2 else lkD L x := by
  unfold lkD
  rw [List.find?_cons]
  by_cases e : t.1 = x
  · simp [e]
  · simp [e]
theorem di_get {x : Int} {d : β} : ∀ {L : DI β}, lkD L x = some d → ∃ v, valV (diK L) (Sum.inl x) = some v ∧ (x, v, d) ∈ L
  | [], h => nomatch h
  | t :: L, h => by
    rw [lkD_cons] at h
    show ∃ v, valV ((Sum.inl t.1, t.2.1) :: diK L) (Sum.inl x) = some v ∧ _
    by_cases e : t.1 = x
    · rw [if_pos e] at h
      cases h
      refine ⟨t.2.1, valV_pos (by rw [key_inl]; exact e), ?_⟩
      rw [← e]; exact List.mem_cons_self ..
    · rw [if_neg e] at h
      obtain ⟨v, h1, h2⟩ := di_get h
      exact ⟨v, (valV_neg (by rw [key_inl]; exact e)).trans h1, List.mem_cons_of_mem _ h2⟩
theorem di_none {x : Int} : ∀ {L : DI β}, lkD L x = none → valV (diK L) (Sum.inl x) = none
  | [], _ => rfl
  | t :: L, h => by
    rw [lkD_cons] at h
    show valV ((Sum.inl t.1, t.2.1) :: diK L) (Sum.inl x) = none
    by_cases e : t.1 = x
    · rw [if_pos e] at h; cases h
    · rw [if_neg e] at h
      exact (valV_neg (by rw [key_inl]; exact e)).trans (di_none h)
theorem di_put (L : DI β) (x : Int) (v : V) (d : β) : putK (diK L) (Sum.inl x) v = diK (ptD L x v d) := by
  have e : ((diK L).any fun kv => decide (kv.1 = Sum.inl x)) = (L.any fun t => decide (t.1 = x)) := by
    unfold diK
    rw [List.any_map]
    congr 1
    funext t
    simp only [Function.comp, key_inl]
  unfold putK ptD
  rw [e]
  by_cases a : (L.any fun t => decide (t.1 = x)) = true
  · rw [if_pos a, if_pos a]
    unfold diK
    rw [List.map_map, List.map_map]
    congr 1
    funext t
    simp only [Function.comp, key_inl]
    by_cases h : t.1 = x
    · rw [if_pos h, if_pos h]
    · rw [if_neg h, if_neg h]
  · rw [if_neg a, if_neg a]
    unfold diK
    rw [List.map_append]; rfl
theorem lkD_any (x : Int) : ∀ L : DI β, (L.any fun t => decide (t.1 = x)) = (lkD L x).isSome
  | [] => rfl
  | t :: L => by
    rw [List.any_cons, lkD_any x L, lkD_cons]
    by_cases e : t.1 = x
    · simp [e]
    · simp [e]
theorem lkD_repl (x y : Int) (v : V) (d : β) : ∀ L : DI β, lkD (L.map fun t => if t.1 = x then (t.1, v, d) else t) y = (lkD L y).map fun z => if y = x then d else z
  | [] => rfl
  | t :: L => by
    rw [List.map_cons, lkD_cons, lkD_cons, lkD_repl x y v d L]
    by_cases e : t.1 = x
    · rw [if_pos e]
      by_cases f : t.1 = y
      · rw [if_pos f, if_pos f, ← f, Option.map_some, if_pos e]
      · rw [if_neg f, if_neg f]
    · rw [if_neg e]
      by_cases f : t.1 = y
      · rw [if_pos f, if_pos f, Option.map_some, if_neg (by rw [← f]; exact e)]
      · rw [if_neg f, if_neg f]
theorem lkD_snoc (x y : Int) (v : V) (d : β) : ∀ L : DI β, lkD (L ++ [(x, v, d)]) y = (lkD L y).or (if x = y then some d else none)
  | [] => by
    rw [List.nil_append, lkD_cons]
    rfl
  | t :: L => by
    rw [List.cons_append, lkD_cons, lkD_cons, lkD_snoc x y v d L]
    by_cases f : t.1 = y
    · rw [if_pos f, if_pos f]; rfl
    · rw [if_neg f, if_neg f]
theorem lkD_put (L : DI β) (x y : Int) (v : V) (d : β) : lkD (ptD L x v d) y = if y = x then some d else lkD L y := by
  unfold ptD
  by_cases a : (L.any fun t => decide (t.1 = x)) = true
  · rw [if_pos a, lkD_repl]
    by_cases e : y = x
    · rw [if_pos e, e]
      rw [lkD_any] at a
      obtain ⟨z, hz⟩ := Option.isSome_iff_exists.mp a
      rw [hz, Option.map_some, if_pos rfl]
    · rw [if_neg e]
      cases lkD L y with
      | none => rfl
      | some z => rw [Option.map_some, if_neg e]
  · rw [if_neg a, lkD_snoc]
    rw [lkD_any] at a
    by_cases e : y = x
    · rw [if_pos e, e, if_pos rfl]
      cases h : lkD L x with
      | none => rfl
      | some z => rw [h] at a; exact absurd rfl a
    · rw [if_neg e, if_neg (fun z => e z.symm)]
      cases lkD L y <;> rfl
theorem DiIs.put [Dat β] {H : Hp} {L : DI β} {x : Int} {v : V} {d : β} (h : DiIs H L) (k : Is H v d) : DiIs H (ptD L x v d) := fun t m => by
  unfold ptD at m
  split at m
  · obtain ⟨t0, m0, rfl⟩ := List.mem_map.mp m
    have z := h t0 m0
    show Is H (if t0.1 = x then (t0.1, v, d) else t0).2.1 (if t0.1 = x then (t0.1, v, d) else t0).2.2
    split
    · exact k
    · exact z
  · rcases List.mem_append.mp m with m | m
    · exact h t m
    · rw [List.mem_singleton.mp m]; exact k
theorem ptD_len (L : DI β) (x : Int) (v : V) (d : β) : (ptD L x v d).length ≤ L.length + 1 := by
  unfold ptD
  split
  · rw [List.length_map]; omega
  · rw [List.length_append]; exact Nat.le_refl _
theorem diK_len (L : DI β) : (diK L).length = L.length := List.length_map ..
/-- no key twice -/
def NdI (L : DI β) : Prop := (L.map (·.1)).Nodup
theorem lkD_mem {L : DI β} {x : Int} : x ∈ L.map (·.1) ↔ lkD L x ≠ none := by
  induction L with
  | nil => simp [lkD]
  | cons t L ih =>
    rw [List.map_cons, List.mem_cons, ih, lkD_cons]
    by_cases e : t.1 = x
    · rw [if_pos e]; simp [e]
    · rw [if_neg e]
      constructor
      · rintro (z | z)
        · exact absurd z.symm e
        · exact z
      · exact .inr
theorem NdI.put {L : DI β} {x : Int} {v : V} {d : β} (h : NdI L) : NdI (ptD L x v d) := by
  unfold NdI ptD at *
  by_cases a : (L.any fun t => decide (t.1 = x)) = true
  · rw [if_pos a, List.map_map]
    have e : ((fun t : Int × V × β => t.1) ∘ fun t => if t.1 = x then (t.1, v, d) else t) = fun t => t.1 := by
      funext t
      show (if t.1 = x then (t.1, v, d) else t).1 = t.1
      split <;> rfl
    rw [e]; exact h
  · rw [if_neg a, List.map_append, List.nodup_append]
    refine ⟨h, by simp, fun y hy z hz e => a ?_⟩
    rw [List.map_cons, List.map_nil, List.mem_singleton] at hz
    rw [lkD_any]
    cases q : lkD L x with
    | some _ => rfl
    | none =>
      rw [e, hz] at hy
      exact absurd q (lkD_mem.mp hy)
end
/-! ### a walk by blocks, its methods -/
def sdB (b : Bool) : Int := if b then 1 else -1
theorem sdB_way {wa : Int} (h : wa = -1 ∨ wa = 1) : sdB (decide (-wa = 1)) = -wa := by
  rcases h with rfl | rfl <;> decide
/-- (0,) times a number from 1 on -/
def rRepA (K : PySem.W.Frag) : R2 := fun x y H Q => ∃ l xs k, x = .ref l ∧ y = .int k ∧ SqT K H l xs ∧ xs ≠ [] ∧ 1 ≤ k ∧ k ≤ 1000 ∧ xs.length ≤ 1000 ∧ (k = 1 → Q (.ref l) H) ∧ (2 ≤ k → ∀ p, H p = none → Q (.ref p) (upd H p (.tup (List.replicate k.toNat xs).flatten)))
theorem op_repA {X : Cx} : OpR X (binaryOp .Mult) (rRepA X.K) := by
  intro pins s σ H x y v u Q I rx ry h
  obtain ⟨l, xs, k, e1, e2, hT, hne, k1, k2, hl, q1, q2⟩ := h
  by_cases c : k = 1
  · exact op_rep01 pins s σ H x y v u Q I rx ry ⟨l, k, xs, e1, e2, hT, hne, .inl ⟨c, q1 c⟩⟩
  · exact op_repT pins s σ H x y v u Q I rx ry ⟨l, k, xs, e1, e2, hT, hne, by omega, k2, hl, q2 (by omega)⟩
theorem flat_one (k : Nat) : (List.replicate k [V.int 0]).flatten = (List.replicate k (0 : Int)).map V.int := by
  induction k with
  | zero => rfl
  | succ k ih => rw [List.replicate_succ, List.replicate_succ, List.flatten_cons, List.map_cons, ih]; rfl
theorem ints_of {H : Hp} : ∀ {xs : List V} {s : List Int}, IsAll H xs s → xs = s.map V.int
  | [], [], _ => rfl
  | [], _ :: _, h => by have := h.1; simp at this
  | _ :: _, [], h => by have := h.1; simp at this
  | x :: xs, i :: s, h => by
    have e : x = V.int i := h.2 0 x i rfl rfl
    rw [List.map_cons, e, ints_of (xs := xs) (s := s) ⟨by have := h.1; simpa using this, fun j y z p q => h.2 (j + 1) y z (by simpa using p) (by simpa using q)⟩]
structure WkAt (C : Addr) (F H : Hp) (o d : Addr) (k : Nat) (L : DI (Tup Int)) (W : Wk) : Prop where
  ob : ∃ dx, H o = some (.ins C dx (Walk_F (.int k) (.ref d) (.int W.at_) (.int W.row) (.int (sdB W.far)) (.int W.st)))
  dd : H d = some (.dK (diK L))
  is : DiIs F L
  nd : NdI L
  bl : ∀ a, W.B a = ((lkD L a).map Tup.l).getD (List.replicate k 0)
section
variable {C : Addr} {F H F' H' : Hp} {o d : Addr} {k : Nat} {L : DI (Tup Int)} {W : Wk} {mu : Addr → Prop}
theorem WkAt.ne (h : WkAt C F H o d k L W) : o ≠ d := by
  obtain ⟨dx, e⟩ := h.ob
  exact ne_of e h.dd (by intro z; cases z)
theorem WkAt.gr (h : WkAt C F H o d k L W) (a : Gr mu F H F' H') (ho : ¬ mu o) (hd : ¬ mu d) : WkAt C F' H' o d k L W := by
  obtain ⟨dx, e⟩ := h.ob
  exact ⟨⟨dx, a.fr _ _ e ho⟩, a.fr _ _ h.dd hd, h.is.up a.ff, h.nd, h.bl⟩
end
def muW (o d : Addr) : Addr → Prop := fun c => c = o ∨ c = d
def sp_Walk_init (C : Addr) : Sp := fun vs H Q _ => ∃ (F : Hp) (o dx : Addr) (k : Nat), vs = [.ref o, .int k] ∧ H o = some (.ins C dx []) ∧ F o = none ∧ Same F H ∧
  ∀ (d : Addr) (H' : Hp), H d = none → Gr (muP o) F H F H' → WkAt C F H' o d k [] (W0 k) → Q .non H'
theorem ok_Walk_init (t : Tx K mg) : FnOk P w K mg base CX0 1 t.a_Walk_init t.fd_Walk_init ["self", "long"] (sp_Walk_init t.C_Walk) := by
  refine t.F_Walk_init.ok sc_Walk_init (fun vs H Q E h => ?_) (fun cdv A outer s H vs Q E hr h => ?_)
  · obtain ⟨F, o, dx, k, rfl, _⟩ := h
    rfl
  · obtain ⟨F, o, dx, k, rfl, ho, fo, sF, q⟩ := h
    refine ⟨_, (pss_cons (ps_fld (pv 0) (pv 1) rfl)
      (pss_cons (ps_fld (pv 0) pe_dnewK rfl)
      (pss_cons (ps_fld (pv 0) pe_int rfl)
      (pss_cons (ps_fld (pv 0) pe_int rfl)
      (pss_cons (ps_fld (pv 0) (pe_un un_neg pe_int) rfl)
      (pss_one (ps_fld (pv 0) pe_int rfl))))))), ?_⟩
    have g0 : Gr (muP o) F H F H := Gr.refl sF
    refine ⟨_, rfl, _, rfl, o, t.C_Walk, dx, [], rfl, ho, t.cl_Walk, t.nA_Walk_long, by show 0 < 1000; decide, ?_⟩
    have g1 := g0.set (o := .ins t.C_Walk dx [("long", .int k)]) fo (.inr rfl)
    rw [Walk_mk0]
    refine fun d nd => ?_
    have od : o ≠ d := ne_of_none upd_same nd
    have g2 := g1.own (o := .dK (diK ([] : DI (Tup Int)))) nd
    have ho2 := ln (u := .dK (diK ([] : DI (Tup Int)))) nd (upd_same (H := H) (a := o) (o := .ins t.C_Walk dx [("long", .int k)]))
    refine ⟨_, rfl, o, t.C_Walk, dx, _, rfl, ho2, t.cl_Walk, t.nA_Walk_blocks, by show 1 < 1000; decide, ?_⟩
    rw [Walk_mk1]
    have g3 := g2.set (o := .ins t.C_Walk dx [("long", .int k), ("blocks", .ref d)]) fo (.inr rfl)
    refine ⟨_, rfl, o, t.C_Walk, dx, _, rfl, upd_same, t.cl_Walk, t.nA_Walk_at, by show 2 < 1000; decide, ?_⟩
    rw [Walk_mk2]
    have g4 := g3.set (o := .ins t.C_Walk dx [("long", .int k), ("blocks", .ref d), ("at", .int 0)]) fo (.inr rfl)
    refine ⟨_, rfl, o, t.C_Walk, dx, _, rfl, upd_same, t.cl_Walk, t.nA_Walk_row, by show 3 < 1000; decide, ?_⟩
    rw [Walk_mk3]
    have g5 := g4.set (o := .ins t.C_Walk dx [("long", .int k), ("blocks", .ref d), ("at", .int 0), ("row", .int 0)]) fo (.inr rfl)
    refine ⟨_, rfl, _, rfl, o, t.C_Walk, dx, _, rfl, upd_same, t.cl_Walk, t.nA_Walk_side, by show 4 < 1000; decide, ?_⟩
    rw [Walk_mk4]
    have g6 := g5.set (o := .ins t.C_Walk dx [("long", .int k), ("blocks", .ref d), ("at", .int 0), ("row", .int 0), ("side", .int (-1))]) fo (.inr rfl)
    refine ⟨_, rfl, o, t.C_Walk, dx, _, rfl, upd_same, t.cl_Walk, t.nA_Walk_steps, by show 5 < 1000; decide, ?_⟩
    rw [Walk_mk5]
    have g7 := g6.set (o := .ins t.C_Walk dx [("long", .int k), ("blocks", .ref d), ("at", .int 0), ("row", .int 0), ("side", .int (-1)), ("steps", .int 0)]) fo (.inr rfl)
    refine q d _ (by
      have n2 := nd
      by_cases e : d = o
      · exact absurd e.symm od
      · rw [upd_ne e] at n2; exact n2) g7 ⟨⟨dx, upd_same⟩, ?_, fun z m => (nomatch m), List.nodup_nil, fun a => rfl⟩
    rw [upd_ne od.symm, upd_ne od.symm, upd_ne od.symm, upd_ne od.symm, upd_ne od.symm, upd_same]
    rfl
def sp_Walk_block (C : Addr) : Sp := fun vs H Q _ => ∃ (F : Hp) (o d : Addr) (k : Nat) (L : DI (Tup Int)) (W : Wk), vs = [.ref o] ∧ Same F H ∧ WkAt C F H o d k L W ∧ 1 ≤ k ∧ k ≤ 10 ∧
  ∀ (F' H' : Hp) (b : Addr), Gr mu0 F H F' H' → F' b = some (.tup ((W.B W.at_).map V.int)) → Q (.ref b) H'
theorem ok_Walk_block (t : Tx K mg) : FnOk P w K mg base CX0 1 t.a_Walk_block t.fd_Walk_block ["self"] (sp_Walk_block t.C_Walk) := by
  refine t.F_Walk_block.ok sc_Walk_block (fun vs H Q E h => ?_) (fun cdv A outer s H vs Q E hr h => ?_)
  · obtain ⟨F, o, d, k, L, W, rfl, _⟩ := h
    rfl
  · obtain ⟨F, o, d, k, L, W, rfl, sF, hW, k1, k10, q⟩ := h
    refine ⟨_, (pss_one (ps_ret (pe_dget2 (hu_of hr) (pe_fld (pv 0) rfl) (pe_fld (pv 0) rfl) (pe_op op_repA (pe_tup (pa_cons pe_int pa_nil)) (pe_fld (pv 0) rfl)) ⟨by rfl, by rfl, by rfl, by rfl⟩))), ?_⟩
    obtain ⟨dx, ho⟩ := hW.ob
    have g0 : Gr mu0 F H F H := Gr.refl sF
    have hb := hW.bl W.at_
    refine ⟨_, rfl, o, t.C_Walk, dx, _, _, rfl, ho, t.cl_Walk, t.nA_Walk_blocks, Walk_get_blocks, d, rfl, .inl ⟨_, .inl hW.dd⟩, _, rfl, o, t.C_Walk, dx, _, _, rfl, ho, t.cl_Walk, t.nA_Walk_at, Walk_get_at, ?_⟩
    refine ⟨one_le, fun p np => ⟨_, rfl, o, t.C_Walk, dx, _, _, rfl, ln np ho, t.cl_Walk, t.nA_Walk_long, Walk_get_long, p, [.int 0], k, rfl, rfl, SqT.of upd_same, (fun z => nomatch z), by omega, by omega, by decide, fun e => ?_, fun _ r nr => ?_⟩⟩
    · have g1 := g0.new (o := .tup [.int 0]) np
      refine ⟨_, DGet.k (k := Sum.inl W.at_) (ln np hW.dd), ?_⟩
      cases el : lkD L W.at_ with
      | none =>
        rw [di_none el]
        rw [el] at hb
        refine q _ _ p g1 ?_
        rw [hb, show k = 1 by omega]
        exact upd_same
      | some s =>
        obtain ⟨v, h1, h2⟩ := di_get el
        rw [h1]
        rw [el] at hb
        obtain ⟨a, xs, e3, h3, h4⟩ := hW.is _ h2
        rw [show v = V.ref a from e3]
        refine q _ _ a g1 (g1.ff _ _ ?_)
        rw [h3, hb, ints_of h4]; rfl
    · have g1 := (g0.own (o := .tup [.int 0]) np).new (o := .tup (List.replicate (k : Int).toNat [V.int 0]).flatten) nr
      refine ⟨_, DGet.k (k := Sum.inl W.at_) (ln nr (ln np hW.dd)), ?_⟩
      cases el : lkD L W.at_ with
      | none =>
        rw [di_none el]
        rw [el] at hb
        refine q _ _ r g1 ?_
        rw [upd_same, hb, Int.toNat_natCast, flat_one]; rfl
      | some s =>
        obtain ⟨v, h1, h2⟩ := di_get el
        rw [h1]
        rw [el] at hb
        obtain ⟨a, xs, e3, h3, h4⟩ := hW.is _ h2
        rw [show v = V.ref a from e3]
        refine q _ _ a g1 (g1.ff _ _ ?_)
        rw [h3, hb, ints_of h4]; rfl
def sp_Walk_place (C : Addr) : Sp := fun vs H Q _ => ∃ (F : Hp) (o d : Addr) (k : Nat) (L : DI (Tup Int)) (W : Wk), vs = [.ref o] ∧ WkAt C F H o d k L W ∧ k ≤ 10 ∧ Q (.int (plB k W)) H
theorem ok_Walk_place (t : Tx K mg) : FnOk P w K mg base CX0 1 t.a_Walk_place t.fd_Walk_place ["self"] (sp_Walk_place t.C_Walk) := by
  refine t.F_Walk_place.ok sc_Walk_place (fun vs H Q E h => ?_) (fun cdv A outer s H vs Q E hr h => ?_)
  · obtain ⟨F, o, d, k, L, W, rfl, _⟩ := h
    rfl
  · obtain ⟨F, o, d, k, L, W, rfl, hW, k10, q⟩ := h
    refine ⟨_, (pss_cons (ps_if (pt_cmpR op_eq (pe_fld (pv 0) rfl) (pe_un un_neg pe_int) (nomark _)) (pss_one (ps_ret (pe_op op_mul (pe_fld (pv 0) rfl) (pe_fld (pv 0) rfl)))) pss_nil)
      (pss_one (ps_ret (pe_op op_sub (pe_op op_add (pe_op op_mul (pe_fld (pv 0) rfl) (pe_fld (pv 0) rfl)) (pe_fld (pv 0) rfl)) pe_int)))), ?_⟩
    obtain ⟨dx, ho⟩ := hW.ob
    refine ⟨_, rfl, o, t.C_Walk, dx, _, _, rfl, ho, t.cl_Walk, t.nA_Walk_side, Walk_get_side, _, rfl, rfl, _, rfl, ?_⟩
    rw [int_eq2]
    unfold plB at q
    cases hf : W.far with
    | false =>
      rw [hf] at q
      have q : Q (.int (W.at_ * k + 0)) H := q
      rw [Int.add_zero] at q
      exact ifT (by decide) ⟨_, rfl, o, t.C_Walk, dx, _, _, rfl, ho, t.cl_Walk, t.nA_Walk_at, Walk_get_at, _, rfl, o, t.C_Walk, dx, _, _, rfl, ho, t.cl_Walk, t.nA_Walk_long, Walk_get_long, _, _, rfl, rfl, .inr ⟨by omega, by omega⟩, q⟩
    | true =>
      rw [hf] at q
      have q : Q (.int (W.at_ * k + ((k : Int) - 1))) H := q
      refine ifF (by decide) ⟨_, rfl, o, t.C_Walk, dx, _, _, rfl, ho, t.cl_Walk, t.nA_Walk_at, Walk_get_at, _, rfl, o, t.C_Walk, dx, _, _, rfl, ho, t.cl_Walk, t.nA_Walk_long, Walk_get_long, _, _, rfl, rfl, .inr ⟨by omega, by omega⟩, _, rfl, o, t.C_Walk, dx, _, _, rfl, ho, t.cl_Walk, t.nA_Walk_long, Walk_get_long, _, _, rfl, rfl, _, _, rfl, rfl, ?_⟩
      rw [show W.at_ * (k : Int) + ((k : Int) - 1) = W.at_ * (k : Int) + (k : Int) - 1 by omega] at q
      exact q
def sp_Walk_out (C : Addr) : Sp := fun vs H Q _ => ∃ (F : Hp) (o d p b : Addr) (k : Nat) (L : DI (Tup Int)) (W : Wk) (wd : TStr) (s : List Int) (r wa m : Int), vs = [.ref o, .ref p] ∧ Same F H ∧ WkAt C F H o d k L W ∧ F o = none ∧ F d = none ∧ L.length ≤ 5000 ∧ (wa = -1 ∨ wa = 1) ∧
  F p = some (.tup [.str wd.x, .ref b, .int r, .int wa, .int m]) ∧ F b = some (.tup (s.map V.int)) ∧ ∀ H' : Hp, Gr (muW o d) F H F H' → WkAt C F H' o d k (ptD L W.at_ (.ref b) ⟨s⟩) (W.out s r wa m) → Q .non H'
theorem ok_Walk_out (t : Tx K mg) : FnOk P w K mg base CX0 1 t.a_Walk_out t.fd_Walk_out ["self", "found"] (sp_Walk_out t.C_Walk) := by
  refine t.F_Walk_out.ok sc_Walk_out (fun vs H Q E h => ?_) (fun cdv A outer s H vs Q E hr h => ?_)
  · obtain ⟨F, o, d, p, b, k, L, W, wd, s, r, wa, m, rfl, _⟩ := h
    rfl
  · obtain ⟨F, o, d, p, b, k, L, W, wd, s, r, wa, m, rfl, sF, hW, fo, fd, hl, hw, hp, hb, q⟩ := h
    refine ⟨_, (pss_cons (ps_asg (pv 1) (pg_tup rfl (pgs_cons (pg_name (i := 2) sc_Walk_out.nd rfl (by first | exact Or.inl rfl | exact Or.inr rfl)) (pgs_cons (pg_name (i := 3) sc_Walk_out.nd rfl (by first | exact Or.inl rfl | exact Or.inr rfl)) (pgs_cons (pg_name (i := 4) sc_Walk_out.nd rfl (by first | exact Or.inl rfl | exact Or.inr rfl)) (pgs_cons (pg_name (i := 5) sc_Walk_out.nd rfl (by first | exact Or.inl rfl | exact Or.inr rfl)) (pgs_cons (pg_name (i := 6) sc_Walk_out.nd rfl (by first | exact Or.inl rfl | exact Or.inr rfl)) pgs_nil)))))))
      (pss_cons (ps_dput (hu_of hr) (pe_fld (pv 0) rfl) (pe_fld (pv 0) rfl) (pv 3) rfl)
      (pss_cons (ps_fldaug (pv 0) (pv 5) in_add)
      (pss_cons (ps_fld (pv 0) (pv 4) rfl)
      (pss_cons (ps_fld (pv 0) (pe_un un_neg (pv 5)) rfl)
      (pss_one (ps_fldaug (pv 0) (pv 6) in_add))))))), ?_⟩
    obtain ⟨dx, ho⟩ := hW.ob
    have od := hW.ne
    have g0 : Gr (muW o d) F H F H := Gr.refl sF
    refine ⟨_, rfl, p, _, rfl, SqT.of (sF _ _ hp), rfl, _, _, rfl, _, _, rfl, _, _, rfl, _, _, rfl, _, _, rfl, rfl, ?_⟩
    refine ⟨_, rfl, _, rfl, o, t.C_Walk, dx, _, _, rfl, ho, t.cl_Walk, t.nA_Walk_blocks, Walk_get_blocks, _, rfl, o, t.C_Walk, dx, _, _, rfl, ho, t.cl_Walk, t.nA_Walk_at, Walk_get_at, d, _, rfl, DPut.k (k := Sum.inl W.at_) hW.dd (by rw [diK_len]; exact lt_size (by omega)), ?_⟩
    rw [di_put L W.at_ (.ref b) (⟨s⟩ : Tup Int)]
    have g1 := g0.set (o := .dK (diK (ptD L W.at_ (.ref b) (⟨s⟩ : Tup Int)))) fd (.inr (.inr rfl))
    have ho1 := (upd_ne (H := H) (o := .dK (diK (ptD L W.at_ (.ref b) (⟨s⟩ : Tup Int)))) od).trans ho
    refine ⟨_, rfl, o, t.C_Walk, dx, _, _, rfl, ho1, t.cl_Walk, t.nA_Walk_at, Walk_get_at, _, rfl, _, _, rfl, rfl, _, _, ho1, Walk_few, ?_⟩
    rw [Walk_put_at]
    have g2 := g1.set (o := .ins t.C_Walk dx (Walk_F (.int k) (.ref d) (.int (W.at_ + wa)) (.int W.row) (.int (sdB W.far)) (.int W.st))) fo (.inr (.inl rfl))
    refine ⟨_, rfl, _, rfl, o, t.C_Walk, dx, _, rfl, upd_same, t.cl_Walk, t.nA_Walk_row, Walk_few, ?_⟩
    rw [Walk_put_row]
    have g3 := g2.set (o := .ins t.C_Walk dx (Walk_F (.int k) (.ref d) (.int (W.at_ + wa)) (.int r) (.int (sdB W.far)) (.int W.st))) fo (.inr (.inl rfl))
    refine ⟨_, rfl, _, rfl, _, rfl, o, t.C_Walk, dx, _, rfl, upd_same, t.cl_Walk, t.nA_Walk_side, Walk_few, ?_⟩
    rw [Walk_put_side]
    have g4 := g3.set (o := .ins t.C_Walk dx (Walk_F (.int k) (.ref d) (.int (W.at_ + wa)) (.int r) (.int (-wa)) (.int W.st))) fo (.inr (.inl rfl))
    refine ⟨_, rfl, o, t.C_Walk, dx, _, _, rfl, upd_same, t.cl_Walk, t.nA_Walk_steps, Walk_get_steps, _, rfl, _, _, rfl, rfl, _, _, upd_same, Walk_few, ?_⟩
    rw [Walk_put_steps]
    have g5 := g4.set (o := .ins t.C_Walk dx (Walk_F (.int k) (.ref d) (.int (W.at_ + wa)) (.int r) (.int (-wa)) (.int (W.st + m)))) fo (.inr (.inl rfl))
    refine q _ g5 ⟨⟨dx, ?_⟩, ?_, hW.is.put ⟨b, _, rfl, hb, all_ints s⟩, hW.nd.put, fun a => ?_⟩
    · show _ = some (HO.ins t.C_Walk dx (Walk_F (.int k) (.ref d) (.int (W.at_ + wa)) (.int r) (.int (sdB (decide (-wa = 1)))) (.int (W.st + m))))
      rw [sdB_way hw]; exact upd_same
    · rw [upd_ne od.symm, upd_ne od.symm, upd_ne od.symm, upd_ne od.symm, upd_same]
    · show updB W.B W.at_ s a = _
      rw [lkD_put]
      unfold updB
      by_cases e : a = W.at_
      · rw [if_pos e, if_pos e]; rfl
      · rw [if_neg e, if_neg e]; exact hW.bl a
def sp_Walk_strip (C : Addr) : Sp := fun vs H Q _ => ∃ (F : Hp) (o d : Addr) (k : Nat) (L : DI (Tup Int)) (W : Wk), vs = [.ref o] ∧ Same F H ∧ WkAt C F H o d k L W ∧ 1 ≤ k ∧ k ≤ 10 ∧ L.length ≤ 5000 ∧ (∀ a, (W.B a).length = k) ∧
  ∀ (F' H' : Hp) (l : Addr) (xs : List V) (z : List PI), Gr mu0 F H F' H' → Ow H F' H' l (.lst xs) → IsAll F' xs z → IsSt z (fB k W.B) → Q (.ref l) H'
theorem lkD_of {β : Type} {L : DI β} {x : Int} (h : x ∈ L.map (·.1)) : ∃ d, lkD L x = some d := by
  cases e : lkD L x with
  | none => exact absurd e (lkD_mem.mp h)
  | some d => exact ⟨d, rfl⟩
theorem piece_take {s : List Int} {base : Int} {j : Nat} {v : Int} (h : s[j]? = some v) : piece base (s.take (j + 1)) = piece base (s.take j) ++ (if v ≠ 0 then [⟨base + j, v⟩] else []) := by
  have l := (List.getElem?_eq_some_iff.mp h).1
  rw [List.take_add_one, h]
  show piece base (s.take j ++ [v]) = _
  rw [piece_snoc, List.length_take, Nat.min_eq_left (by omega)]
theorem stripO_snoc (k : Nat) (B : Int → List Int) (ys : List Int) (a : Int) : stripO k B (ys ++ [a]) = stripO k B ys ++ piece (a * k) (B a) := by
  unfold stripO
  rw [List.flatMap_append]
  congr 1
  show piece (a * k) (B a) ++ [] = _
  rw [List.append_nil]
theorem len_stripO {k : Nat} {B : Int → List Int} (hB : ∀ a, (B a).length = k) : ∀ ys : List Int, (stripO k B ys).length ≤ k * ys.length
  | [] => Nat.zero_le _
  | y :: ys => by
    have ih := len_stripO hB ys
    have lp : ∀ (s : List Int) (b : Int), (piece b s).length ≤ s.length := fun s => by
      induction s with
      | nil => intro b; exact Nat.zero_le _
      | cons x s ih => intro b; rw [piece, List.length_append]; have := ih (b + 1); split <;> simp <;> omega
    have h := lp (B y) (y * k)
    rw [hB] at h
    show (piece (y * k) (B y) ++ stripO k B ys).length ≤ _
    rw [List.length_append, List.length_cons, Nat.mul_add, Nat.mul_one]
    omega
theorem ok_Walk_strip (t : Tx K mg) : FnOk P w K mg base CX0 1 t.a_Walk_strip t.fd_Walk_strip ["self"] (sp_Walk_strip t.C_Walk) := by
  refine t.F_Walk_strip.ok sc_Walk_strip (fun vs H Q E h => ?_) (fun cdv A outer s H vs Q E hr h => ?_)
  · obtain ⟨F, o, d, k, L, W, rfl, _⟩ := h
    rfl
  · obtain ⟨F, o, d, k, L, W, rfl, sF, hW, k1, k10, hL, hB, q⟩ := h
    refine ⟨_, (pss_cons (ps_set (i := 1) sc_Walk_strip.nd rfl (by first | exact Or.inl rfl | exact Or.inr rfl) (pe_lst pa_nil))
      (pss_cons (ps_for PassesOwn.never rfl (pi_list (pe_callB (id := "sorted") (call_sortDI rfl) (by rfl) t.n_sorted (by decide +kernel) (pa_cons (pe_fld (pv 0) rfl) pa_nil))) (pg_name (i := 2) sc_Walk_strip.nd rfl (by first | exact Or.inl rfl | exact Or.inr rfl)) (pss_one (ps_for PassesOwn.never rfl (pi_enT (by rfl) t.n_enumerate (pa_cons (pe_dget (hu_of hr) (pe_fld (pv 0) rfl) (pv 2) (fun _ _ => rfl)) pa_nil)) (pg_tup rfl (pgs_cons (pg_name (i := 3) sc_Walk_strip.nd rfl (by first | exact Or.inl rfl | exact Or.inr rfl)) (pgs_cons (pg_name (i := 4) sc_Walk_strip.nd rfl (by first | exact Or.inl rfl | exact Or.inr rfl)) pgs_nil))) (pss_one (ps_if (pt_cmpR op_ne (pv 4) pe_int (nomark _)) (pss_one (ps_expr (pe_bm PySem.F.plainAttrs_list PySem.F.slot_list_append PySem.F.type_list_append mt_append (pv 1) (pa_cons (pe_tup (pa_cons (pe_op op_add (pe_op op_mul (pv 2) (pe_fld (pv 0) rfl)) (pv 3)) (pa_cons (pv 4) pa_nil))) pa_nil)))) pss_nil)))))
      (pss_one (ps_ret (pv 1))))), ?_⟩
    obtain ⟨dx, ho⟩ := hW.ob
    have g0 : Gr mu0 F H F H := Gr.refl sF
    refine ⟨nil_le, fun D nD => ?_⟩
    have g1 := g0.own (o := .lst []) nD
    have w1 : Ow H F (upd H D (.lst [])) D (.lst []) := Ow.mk1 g0 nD
    have W1 := hW.gr ((Gr.refl (mu := mu0) sF).own (o := .lst []) nD) (fun z => z) (fun z => z)
    generalize upd H D (.lst []) = H1 at g1 w1 W1 ⊢
    obtain ⟨dx, ho1⟩ := W1.ob
    refine ⟨_, rfl, o, t.C_Walk, dx, _, _, rfl, ho1, t.cl_Walk, t.nA_Walk_blocks, Walk_get_blocks, ?_⟩
    unfold rSortDI
    refine ⟨d, diK L, L.map (·.1), rfl, .inl W1.dd, by unfold diK; rw [List.map_map, List.map_map]; rfl, fun ys p hperm hsort np => ?_⟩
    have g2 := g1.own (o := .lst (ys.map V.int)) np
    have w2 := w1.own (u := .lst (ys.map V.int)) np
    have W2 := W1.gr ((Gr.refl (mu := mu0) g1.fh).own (o := .lst (ys.map V.int)) np) (fun z => z) (fun z => z)
    have Dp' : D ≠ p := w1.ne np
    have hp2 : (upd H1 p (.lst (ys.map V.int))) p = some (.lst (ys.map V.int)) := upd_same
    generalize upd H1 p (.lst (ys.map V.int)) = H2 at g2 w2 W2 hp2 ⊢
    have ylen : ys.length ≤ 5000 := by rw [hperm.length_eq, List.length_map]; exact hL
    have ynd : ys.Nodup := hperm.nodup_iff.mpr W1.nd
    have yst : ys.Pairwise (· < ·) := by
      have z : ys.Pairwise (fun a b => a ≤ b ∧ a ≠ b) := List.Pairwise.and hsort ynd
      exact z.imp fun {a b} h => by omega
    refine ⟨p, rfl, ⟨_, SqL.of hp2⟩, for_list (K := K) (a := p) (xs := ys.map V.int) (fun i σ G => ∃ (F1 : Hp) (xs : List V) (v2 v3 v4 : Option V), σ = [some (.ref o), some (.ref D), v2, v3, v4] ∧ Gr mu0 F H F1 G ∧ WkAt t.C_Walk F1 G o d k L W ∧ Ow H F1 G D (.lst xs) ∧ IsAll F1 xs (stripO k W.B (ys.take i)) ∧ G p = some (.lst (ys.map V.int)) ∧ F1 p = none)
      ⟨F, [], none, none, none, rfl, g2, W2, w2, All2.nil, hp2, g1.fh.free np⟩ (fun i σ G _ ⟨F1, xs, v2, v3, v4, _, _, _, _, _, hp, _⟩ => SqL.of hp) ?_ ?_⟩
    · rintro i x σ G hi ⟨F1, xs, v2, v3, v4, rfl, g, Wg, w, al, hp, fp⟩
      rw [List.getElem?_map] at hi
      obtain ⟨a, hy, rfl⟩ := Option.map_eq_some_iff.mp hi
      have il : i < ys.length := (List.getElem?_eq_some_iff.mp hy).1
      obtain ⟨dx, ho⟩ := Wg.ob
      obtain ⟨s, el⟩ := lkD_of (L := L) (x := a) (hperm.mem_iff.mp (List.mem_of_getElem? hy))
      obtain ⟨v, h1, h2⟩ := di_get el
      obtain ⟨ra, es, e3, h3, h4⟩ := Wg.is _ h2
      have e3 : v = .ref ra := e3
      subst e3
      have es' := ints_of h4
      have eB : W.B a = s.l := by rw [Wg.bl, el]; rfl
      subst es'
      have ls : s.l.length = k := by rw [← eB]; exact hB a
      refine ⟨_, rfl, o, t.C_Walk, dx, _, _, rfl, ho, t.cl_Walk, t.nA_Walk_blocks, Walk_get_blocks, _, rfl, d, _, rfl, (by have z := DGet.k (k := Sum.inl a) Wg.dd; rw [h1] at z; exact z), ra, _, rfl, SqT.of (g.fh _ _ h3), ?_⟩
      refine for_it (walk_enT (K := K) (a := ra) (xs := s.l.map V.int)) (fun j σ G => ∃ (F2 : Hp) (xs2 : List V) (v3 v4 : Option V), σ = [some (.ref o), some (.ref D), some (.int a), v3, v4] ∧ Gr mu0 F H F2 G ∧ Same F1 F2 ∧ WkAt t.C_Walk F2 G o d k L W ∧ Ow H F2 G D (.lst xs2) ∧ IsAll F2 xs2 (stripO k W.B (ys.take i) ++ piece (a * k) (s.l.take j)) ∧ G p = some (.lst (ys.map V.int)) ∧ F2 p = none)
        ⟨F1, xs, _, _, rfl, g, Same.refl F1, Wg, w, by rw [List.take_zero]; show IsAll F1 xs (_ ++ []); rw [List.append_nil]; exact al, hp, fp⟩ (fun j σ G _ ⟨F2, xs2, v3, v4, _, g2, s2, _⟩ => SqT.of (g2.fh _ _ (s2 _ _ h3))) ?_ ?_
      · rintro j x σ G G' hj ⟨F2, xs2, v3, v4, rfl, g2, s2, Wg2, w2, al2, hp2, fp2⟩ ⟨T, x1, x2, rfl, nT, rfl, hx1, hx2⟩
        rw [List.length_map] at hj
        have hx2 : (s.l.map V.int)[j]? = some x2 := hx2
        rw [List.getElem?_map] at hx2
        obtain ⟨u, hu, rfl⟩ := Option.map_eq_some_iff.mp hx2
        cases hx1
        have g3 := g2.own (o := .tup [.int j, .int u]) nT
        have w3 := w2.own (u := .tup [.int j, .int u]) nT
        have W3 := Wg2.gr ((Gr.refl (mu := mu0) g2.fh).own (o := .tup [.int j, .int u]) nT) (fun z => z) (fun z => z)
        have hp3 := ln (u := .tup [.int j, .int u]) nT hp2
        have hT : (upd G T (.tup [.int j, .int u])) T = some (.tup [.int j, .int u]) := upd_same
        generalize upd G T (.tup [.int j, .int u]) = G3 at g3 w3 W3 hp3 hT ⊢
        refine ⟨T, _, rfl, SqT.of hT, rfl, _, _, rfl, _, _, rfl, rfl, _, rfl, rfl, _, rfl, ?_⟩
        have len2 : xs2.length ≤ 60000 := by
          have e1 := len_stripO hB (ys.take i)
          have e2 : (piece (a * k) (s.l.take j)).length ≤ k := by
            have z := len_stripO (k := k) (B := fun _ => s.l) (fun _ => ls) [a]
            have z2 : (piece (a * k) (s.l.take j)).length ≤ (piece (a * k) s.l).length := by
              rw [← List.take_append_drop j s.l]
              have : ∀ (x y : List Int) (b : Int), (piece b x).length ≤ (piece b (x ++ y)).length := fun x y => by
                induction x with
                | nil => intro b; exact Nat.zero_le _
                | cons c x ih => intro b; rw [List.cons_append, piece, piece, List.length_append, List.length_append]; have := ih (b + 1); omega
              rw [List.take_append_drop]
              have := this (s.l.take j) (s.l.drop j) (a * k)
              rw [List.take_append_drop] at this
              exact this
            have z3 : (stripO k (fun _ => s.l) [a]).length = (piece (a * k) s.l).length := by
              show (piece (a * k) s.l ++ []).length = _
              rw [List.append_nil]
            rw [z3] at z
            simp only [List.length_cons, List.length_nil, Nat.zero_add, Nat.mul_one] at z
            omega
          rw [List.length_take] at e1
          have e3 : k * min i ys.length ≤ 10 * 5000 := Nat.mul_le_mul k10 (by omega)
          have := al2.1
          rw [List.length_append] at this
          omega
        by_cases uz : u = 0
        · refine ifF (by rw [uz]; rfl) ⟨F2, xs2, _, _, rfl, g3, s2, W3, w3, ?_, hp3, fp2⟩
          rw [piece_take hu, if_neg (by omega), List.append_nil]
          exact al2
        · refine ifT (by
            show (!decide (V.int u = V.int 0)) = true
            rw [int_eq2, decide_eq_false uz]; rfl) ?_
          obtain ⟨dx, ho3⟩ := W3.ob
          refine ⟨_, rfl, .inl ⟨rfl, _, SqL.of w3.h⟩, _, rfl, _, rfl, o, t.C_Walk, dx, _, _, rfl, ho3, t.cl_Walk, t.nA_Walk_long, Walk_get_long, _, _, rfl, rfl, .inr ⟨by omega, by omega⟩, _, rfl, _, _, rfl, rfl, _, rfl, two_le, fun y ny => ⟨D, xs2, _, rfl, rfl, ln ny w3.h, lt_size (by omega), ?_⟩⟩
          have g4 := g3.new (o := .tup [.int (a * k + j), .int u]) ny
          have w4 := w3.new (u := .tup [.int (a * k + j), .int u]) ny
          have W4 := W3.gr ((Gr.refl (mu := mu0) g3.fh).new (o := .tup [.int (a * k + j), .int u]) ny) (fun z => z) (fun z => z)
          have s4 : Same F2 (upd F2 y (.tup [.int (a * k + j), .int u])) := sm_new (Same.refl F2) (g3.fh.free ny)
          have hp4 := ln (u := .tup [.int (a * k + j), .int u]) ny hp3
          have fp4 : (upd F2 y (.tup [.int (a * k + j), .int u])) p = none := by
            rw [upd_ne (ne_of_none hp3 ny)]; exact fp2
          have iy : Is (upd F2 y (.tup [.int (a * k + j), .int u])) (.ref y) (⟨a * k + j, u⟩ : PI) := ⟨y, _, _, rfl, upd_same, rfl, rfl⟩
          have D1 : D ≠ o := fun e => by have := w4.n; rw [e] at this; obtain ⟨dx, hh⟩ := hW.ob; rw [hh] at this; cases this
          have D2 : D ≠ d := fun e => by have := w4.n; rw [e] at this; rw [hW.dd] at this; cases this
          refine ⟨_, xs2 ++ [.ref y], _, _, rfl, g4.set w4.f (.inl w4.n), fun c o h => s4 c o (s2 c o h), ?_, w4.set, ?_, by rw [upd_ne Dp'.symm]; exact hp4, fp4⟩
          · obtain ⟨dx, e⟩ := W4.ob
            exact ⟨⟨dx, by rw [upd_ne D1.symm]; exact e⟩, by rw [upd_ne D2.symm]; exact W4.dd, W4.is, W4.nd, W4.bl⟩
          · rw [piece_take hu, if_pos uz, ← List.append_assoc]
            exact (al2.up s4).app (All2.one iy)
      · rintro σ G ⟨F2, xs2, v3, v4, rfl, g2, s2, Wg2, w2, al2, hp2, fp2⟩
        refine ⟨F2, xs2, _, _, _, rfl, g2, Wg2, w2, ?_, hp2, fp2⟩
        rw [List.length_map, List.take_length] at al2
        rw [List.take_add_one, hy]
        show IsAll F2 xs2 (stripO k W.B (ys.take i ++ [a]))
        rw [stripO_snoc, eB]
        exact al2
    · rintro σ G ⟨F1, xs, v2, v3, v4, rfl, g, Wg, w, al, hp, fp⟩
      rw [List.length_map, List.take_length] at al
      refine ⟨_, rfl, q F1 G D xs _ g w al (strip_ok k1 hB yst fun a na v m => ?_)⟩
      rw [hW.bl a] at m
      cases el : lkD L a with
      | none => rw [el] at m; exact (List.mem_replicate.mp m).2
      | some s => exact absurd (hperm.mem_iff.mpr (lkD_mem.mpr (by rw [el]; exact fun z => nomatch z))) na
/-! ### by blocks -/
theorem sdB_dec (b : Bool) : decide (sdB b = 1) = b := by cases b <;> decide
def sp_by_blocks : Sp := fun vs H Q _ => ∃ (F : Hp) (m : V) (M : Mach) (R S k n : Nat), vs = [m, .int k, .int n] ∧ Same F H ∧ Is F m M ∧ MOk M R S ∧ 1 ≤ k ∧ k ≤ 4 ∧ n ≤ 1000 ∧
  ∀ (F' H' : Hp) (v l : Addr) (xs : List V) (z : List PI) (Y : ByR), byB M R S k n (W0 k) = Y → Gr mu0 F H F' H' → F' v = some (.tup [.str Y.w.x, .int Y.st, .int Y.row, .int Y.pl, .ref l]) → Ow H F' H' l (.lst xs) → IsAll F' xs z → IsSt z (fB k Y.B) → Q (.ref v) H'
theorem ok_by_blocks (t : Tx K mg) : FnOk P w K mg base CX0 5 t.a_by_blocks t.fd_by_blocks ["machine", "k", "many"] sp_by_blocks := by
  refine t.F_by_blocks.ok sc_by_blocks (fun vs H Q E h => ?_) (fun cdv A outer s H vs Q E hr h => ?_)
  · obtain ⟨F, m, M, R, S, k, n, rfl, _⟩ := h
    rfl
  · obtain ⟨F, m, M, R, S, k, n, rfl, sF, hm, hM, k1, k4, hn, q⟩ := h
    refine ⟨_, (pss_cons (ps_expr (pe_call (ok_must_machine t) (hr.mono (by decide)) (by rfl) t.m_must_machine t.F_must_machine.kp t.b_must_machine .nil pass0 (pa_cons (pv 0) pa_nil)))
      (pss_cons (ps_set (i := 3) sc_by_blocks.nd rfl (by first | exact Or.inl rfl | exact Or.inr rfl) (pe_make t.M_Walk (ok_Walk_init t) (hr.mono (by decide)) (by rfl) t.m_Walk t.b_Walk_init .nil pass0 (pa_cons (pv 1) pa_nil)))
      (pss_cons (ps_for PassesOwn.never rfl (pi_range1 (by rfl) t.n_range (pa_cons (pv 2) pa_nil)) (pg_name (i := 4) sc_by_blocks.nd rfl (by first | exact Or.inl rfl | exact Or.inr rfl)) (pss_cons (ps_set (i := 5) sc_by_blocks.nd rfl (by first | exact Or.inl rfl | exact Or.inr rfl) (pe_call (ok_through t) (hr.mono (by decide)) (by rfl) t.m_through t.F_through.kp t.b_through .nil pass0 (pa_cons (pv 0) (pa_cons (pe_meth0 (pv 3) t.cl_Walk t.M_Walk_block (ok_Walk_block t) (hr.mono (by decide)) t.b_Walk_block .nil pass0) (pa_cons (pe_fld (pv 3) rfl) (pa_cons (pe_fld (pv 3) rfl) pa_nil))))))
      (pss_cons (ps_if (pt_cmpR op_eq (pe_ix ix_tup (pv 5) pe_int (fun _ _ => rfl)) pe_str (nomark _)) (pss_one (ps_ret (pe_tup (pa_cons pe_str (pa_cons (pe_fld (pv 3) rfl) (pa_cons (pe_fld (pv 3) rfl) (pa_cons (pe_meth0 (pv 3) t.cl_Walk t.M_Walk_place (ok_Walk_place t) (hr.mono (by decide)) t.b_Walk_place .nil pass0) (pa_cons (pe_meth0 (pv 3) t.cl_Walk t.M_Walk_strip (ok_Walk_strip t) (hr.mono (by decide)) t.b_Walk_strip .nil pass0) pa_nil)))))))) pss_nil)
      (pss_cons (ps_if (pt_cmpR op_eq (pe_ix ix_tup (pv 5) pe_int (fun _ _ => rfl)) pe_str (nomark _)) (pss_cons (ps_asg (pv 5) (pg_tup rfl (pgs_cons (pg_name (i := 6) sc_by_blocks.nd rfl (by first | exact Or.inl rfl | exact Or.inr rfl)) (pgs_cons (pg_name (i := 7) sc_by_blocks.nd rfl (by first | exact Or.inl rfl | exact Or.inr rfl)) (pgs_cons (pg_name (i := 8) sc_by_blocks.nd rfl (by first | exact Or.inl rfl | exact Or.inr rfl)) (pgs_cons (pg_name (i := 9) sc_by_blocks.nd rfl (by first | exact Or.inl rfl | exact Or.inr rfl)) (pgs_cons (pg_name (i := 10) sc_by_blocks.nd rfl (by first | exact Or.inl rfl | exact Or.inr rfl)) pgs_nil)))))))
      (pss_cons (ps_dput (hu_of hr) (pe_fld (pv 3) rfl) (pe_fld (pv 3) rfl) (pv 7) rfl)
      (pss_one (ps_ret (pe_tup (pa_cons pe_str (pa_cons (pe_op op_add (pe_fld (pv 3) rfl) (pv 10)) (pa_cons (pv 8) (pa_cons (pe_op op_add (pe_op op_mul (pe_fld (pv 3) rfl) (pv 1)) (pv 9)) (pa_cons (pe_meth0 (pv 3) t.cl_Walk t.M_Walk_strip (ok_Walk_strip t) (hr.mono (by decide)) t.b_Walk_strip .nil pass0) pa_nil)))))))))) pss_nil)
      (pss_one (ps_expr (pe_meth (pv 3) t.cl_Walk t.M_Walk_out (ok_Walk_out t) (hr.mono (by decide)) t.b_Walk_out .nil pass0 (pa_cons (pv 5) pa_nil))))))))
      (pss_one (ps_ret (pe_tup (pa_cons pe_str (pa_cons (pe_fld (pv 3) rfl) (pa_cons (pe_fld (pv 3) rfl) (pa_cons (pe_meth0 (pv 3) t.cl_Walk t.M_Walk_place (ok_Walk_place t) (hr.mono (by decide)) t.b_Walk_place .nil pass0) (pa_cons (pe_meth0 (pv 3) t.cl_Walk t.M_Walk_strip (ok_Walk_strip t) (hr.mono (by decide)) t.b_Walk_strip .nil pass0) pa_nil))))))))))), ?_⟩
    refine ⟨_, rfl, F, m, M, R, S, rfl, sF, hm, hM, fun H1 g1 => ?_⟩
    have S1 : 1 ≤ S := by have := hM.s2; omega
    refine ⟨_, rfl, fun o do' no ndo neo => ?_⟩
    have g2 := g1.own (o := .own o) ndo
    have no2 : (upd H1 do' (.own o)) o = none := by rw [upd_ne neo.symm]; exact no
    have g3 := g2.own (o := .ins t.C_Walk do' []) no2
    have hno : H o = none := g1.th _ no
    refine ⟨F, o, do', k, rfl, upd_same, g1.fh.free no, g3.fh, fun d H4 nd g4 W4 => ⟨rfl, ?_⟩⟩
    have hnd : H d = none := g3.th _ nd
    have g5 := g3.thn g4 fun c z => .inr (by rw [show c = o from z]; exact hno)
    have fo : F o = none := g1.fh.free no
    have fd : F d = none := g3.fh.free nd
    clear g1 g2 g3 g4 no2
    have kw : ∀ {F1 G F2 G2 : Hp} {L : DI (Tup Int)} {W : Wk}, WkAt t.C_Walk F1 G o d k L W → Gr mu0 F1 G F2 G2 → WkAt t.C_Walk F2 G2 o d k L W := fun W1 g => W1.gr g (fun z => z) (fun z => z)
    have no' : ∀ {F1 G F2 G2 : Hp} {L : DI (Tup Int)} {W : Wk}, WkAt t.C_Walk F1 G o d k L W → Gr mu0 F1 G F2 G2 → F1 o = none → F1 d = none → F2 o = none ∧ F2 d = none := fun W1 g h1 h2 => by
      obtain ⟨dx, e⟩ := W1.ob
      exact ⟨g.pf0 h1 e, g.pf0 h2 W1.dd⟩
    -- what is told at the end of it
    have fin : ∀ {F1 G : Hp} {L : DI (Tup Int)} {W : Wk} (Y : ByR), Gr mu0 F H F1 G → byB M R S k n (W0 k) = Y → Y.B = W.B → ∀ {F4 G4 : Hp} {l : Addr} {xs : List V} {z : List PI}, Gr mu0 F1 G F4 G4 → Ow G F4 G4 l (.lst xs) → IsAll F4 xs z → IsSt z (fB k W.B) →
        ∀ u, G4 u = none → Q (.ref u) (upd G4 u (.tup [.str Y.w.x, .int Y.st, .int Y.row, .int Y.pl, .ref l])) := by
      intro F1 G L W Y g e eB F4 G4 l xs z g4 wl al st u nu
      have g6 := g.trans g4
      have wl' : Ow H F4 G4 l (.lst xs) := ⟨g.th _ wl.n, wl.f, wl.h⟩
      have s6 : Same F4 (upd F4 u (.tup [.str Y.w.x, .int Y.st, .int Y.row, .int Y.pl, .ref l])) := sm_new (Same.refl F4) (g6.fh.free nu)
      exact q _ _ u l xs z Y e (g6.new nu) upd_same (wl'.new nu) (al.up s6) (by rw [eB]; exact st)
    refine ⟨_, rfl, (n : Int), rfl, by omega, by omega, for_range (lo := 0) (n := ((n : Int)).toNat) (fun i σ G => ∃ (F1 : Hp) (L : DI (Tup Int)) (W : Wk) (v4 v5 v6 v7 v8 v9 v10 : Option V), σ = [some m, some (.int k), some (.int n), some (.ref o), v4, v5, v6, v7, v8, v9, v10] ∧
      Gr mu0 F H F1 G ∧ Is F1 m M ∧ WkAt t.C_Walk F1 G o d k L W ∧ OkW R S k W ∧ L.length ≤ i ∧ i ≤ n ∧ byB M R S k n (W0 k) = byB M R S k (n - i) W ∧ F1 o = none ∧ F1 d = none)
      ⟨F, [], W0 k, none, none, none, none, none, none, none, rfl, g5, hm, W4, W0_ok hM.r1 S1, Nat.le_refl 0, by omega, rfl, fo, fd⟩ ?_ ?_⟩
    · rintro i σ G hi ⟨F1, L, W, v4, v5, v6, v7, v8, v9, v10, rfl, g, hmF, Wg, ok, lL, hin, es, fo1, fd1⟩
      have i1 : i < n := by omega
      rw [show n - i = (n - (i + 1)) + 1 by omega] at es
      obtain ⟨dx, ho⟩ := Wg.ob
      refine ⟨_, rfl, _, rfl, o, dx, _, rfl, ho, Walk_no (by decide +kernel) (by decide +kernel) (by decide +kernel) (by decide +kernel) (by decide +kernel) (by decide +kernel), F1, o, d, k, L, W, rfl, g.fh, Wg, k1, by omega, fun F2 G2 b g2 hb => ?_⟩
      have W2 := kw Wg g2
      obtain ⟨dx, ho2⟩ := W2.ob
      have lB : (W.B W.at_).length = k := ok.len _
      refine ⟨_, rfl, o, t.C_Walk, dx, _, _, rfl, ho2, t.cl_Walk, t.nA_Walk_row, Walk_get_row, _, rfl, o, t.C_Walk, dx, _, _, rfl, ho2, t.cl_Walk, t.nA_Walk_side, Walk_get_side, F2, m, b, M, R, S, W.B W.at_, W.row, sdB W.far, rfl, g2.fh, hmF.up g2.ff, hM, hb, ok.s _, by omega, by omega, ok.r0, ok.r1, fun F3 G3 v g3 iv => ?_⟩
      rw [sdB_dec] at iv
      have gg := (g.trans g2).trans g3
      have W3 := kw W2 g3
      obtain ⟨fo2, fd2⟩ := no' Wg g2 fo1 fd1
      obtain ⟨fo3, fd3⟩ := no' W2 g3 fo2 fd2
      have hm3 := (hmF.up g2.ff).up g3.ff
      obtain ⟨dx, ho3⟩ := W3.ob
      cases et : thr M R S (W.B W.at_) W.row W.far with
      | stay =>
        rw [et] at iv
        obtain ⟨p, rfl, hp⟩ := iv
        refine ⟨_, rfl, p, _, _, _, rfl, rfl, SqT.of (gg.fh _ _ hp), atI_nat (j := 0) rfl, rfl, _, rfl, ifT (decide_eq_true rfl) ?_⟩
        rw [byB_stay et] at es
        refine ⟨_, rfl, o, t.C_Walk, dx, _, _, rfl, ho3, t.cl_Walk, t.nA_Walk_steps, Walk_get_steps, _, rfl, o, t.C_Walk, dx, _, _, rfl, ho3, t.cl_Walk, t.nA_Walk_row, Walk_get_row, _, rfl, o, dx, _, rfl, ho3, Walk_no (by decide +kernel) (by decide +kernel) (by decide +kernel) (by decide +kernel) (by decide +kernel) (by decide +kernel), F3, o, d, k, L, W, rfl, W3, by omega, ?_⟩
        refine ⟨_, rfl, o, dx, _, rfl, ho3, Walk_no (by decide +kernel) (by decide +kernel) (by decide +kernel) (by decide +kernel) (by decide +kernel) (by decide +kernel), F3, o, d, k, L, W, rfl, gg.fh, W3, k1, by omega, by omega, ok.len, fun F4 G4 l xs z g4 wl al st => ⟨five_le, fun u nu => ?_⟩⟩
        exact fin (L := L) (W := W) _ gg es rfl g4 wl al st u nu
      | fin wd s r x mm =>
        rw [et] at iv
        obtain ⟨p, b', rfl, hp, hb'⟩ := iv
        obtain ⟨hw, ls, ss, hr', hmm, hx1, hx2⟩ := thr_ok hM (ok.s _) (by rw [lB]; exact k1) ok.r0 ok.r1 et
        have hp3 := SqT.of (K := K) (gg.fh _ _ hp)
        refine ⟨_, rfl, p, _, _, _, rfl, rfl, hp3, atI_nat (j := 0) rfl, rfl, _, rfl, ifF (by rcases hw with rfl | rfl <;> decide +kernel) ?_⟩
        rcases hw with rfl | rfl
        · rw [byB_end et] at es
          refine ⟨_, rfl, p, _, _, _, rfl, rfl, hp3, atI_nat (j := 0) rfl, rfl, _, rfl, ifT (decide_eq_true rfl) ?_⟩
          refine ⟨_, rfl, p, _, rfl, hp3, rfl, _, _, rfl, _, _, rfl, _, _, rfl, _, _, rfl, _, _, rfl, rfl, ?_⟩
          refine ⟨_, rfl, _, rfl, o, t.C_Walk, dx, _, _, rfl, ho3, t.cl_Walk, t.nA_Walk_blocks, Walk_get_blocks, _, rfl, o, t.C_Walk, dx, _, _, rfl, ho3, t.cl_Walk, t.nA_Walk_at, Walk_get_at, d, _, rfl, DPut.k (k := Sum.inl W.at_) W3.dd (by rw [diK_len]; exact lt_size (by omega)), ?_⟩
          rw [di_put L W.at_ (.ref b') (⟨s⟩ : Tup Int)]
          have od := W3.ne
          have g6 := gg.set (o := .dK (diK (ptD L W.at_ (.ref b') (⟨s⟩ : Tup Int)))) fd3 (.inl hnd)
          have ho6 := (upd_ne (H := G3) (o := .dK (diK (ptD L W.at_ (.ref b') (⟨s⟩ : Tup Int)))) od).trans ho3
          have W6 : WkAt t.C_Walk F3 (upd G3 d (.dK (diK (ptD L W.at_ (.ref b') (⟨s⟩ : Tup Int))))) o d k (ptD L W.at_ (.ref b') (⟨s⟩ : Tup Int)) ⟨updB W.B W.at_ s, W.at_, W.row, W.far, W.st⟩ :=
            ⟨⟨dx, ho6⟩, upd_same, W3.is.put ⟨b', _, rfl, hb', all_ints s⟩, W3.nd.put, fun a => by
              show updB W.B W.at_ s a = _
              rw [lkD_put]
              unfold updB
              by_cases e : a = W.at_
              · rw [if_pos e, if_pos e]; rfl
              · rw [if_neg e, if_neg e]; exact W3.bl a⟩
          generalize upd G3 d (.dK (diK (ptD L W.at_ (.ref b') (⟨s⟩ : Tup Int)))) = G6 at g6 ho6 W6 ⊢
          have lp := ptD_len L W.at_ (.ref b') (⟨s⟩ : Tup Int)
          refine ⟨_, rfl, o, t.C_Walk, dx, _, _, rfl, ho6, t.cl_Walk, t.nA_Walk_steps, Walk_get_steps, _, rfl, _, _, rfl, rfl, _, rfl, _, rfl, o, t.C_Walk, dx, _, _, rfl, ho6, t.cl_Walk, t.nA_Walk_at, Walk_get_at, _, rfl, _, _, rfl, rfl, .inr ⟨by omega, by omega⟩, _, rfl, _, _, rfl, rfl, ?_⟩
          refine ⟨_, rfl, o, dx, _, rfl, ho6, Walk_no (by decide +kernel) (by decide +kernel) (by decide +kernel) (by decide +kernel) (by decide +kernel) (by decide +kernel), F3, o, d, k, _, ⟨updB W.B W.at_ s, W.at_, W.row, W.far, W.st⟩, rfl, g6.fh, W6, k1, by omega, by omega, fun a => ?_, fun F4 G4 l xs z g4 wl al st => ⟨five_le, fun u nu => ?_⟩⟩
          · show (updB W.B W.at_ s a).length = k
            unfold updB
            split
            · rw [ls]; exact lB
            · exact ok.len a
          · exact fin (L := L) (W := ⟨updB W.B W.at_ s, W.at_, W.row, W.far, W.st⟩) _ g6 es rfl g4 wl al st u nu
        · rw [byB_out et] at es
          refine ⟨_, rfl, p, _, _, _, rfl, rfl, hp3, atI_nat (j := 0) rfl, rfl, _, rfl, ifF (by decide +kernel) ?_⟩
          refine ⟨_, rfl, o, dx, _, rfl, ho3, Walk_no (by decide +kernel) (by decide +kernel) (by decide +kernel) (by decide +kernel) (by decide +kernel) (by decide +kernel), _, rfl, F3, o, d, p, b', k, L, W, tOut, s, r, x, mm, rfl, gg.fh, W3, fo3, fd3, by omega, (hx2 rfl).1, hp, hb', fun G5 g5' W5 => ?_⟩
          have lp := ptD_len L W.at_ (.ref b') (⟨s⟩ : Tup Int)
          refine ⟨F3, _, _, _, _, _, _, _, _, _, rfl, gg.thn g5' fun c z => .inr (by rcases z with rfl | rfl <;> assumption), hm3, W5, ok.out hM k1 et, by omega, by omega, es, fo3, fd3⟩
    · rintro σ G ⟨F1, L, W, v4, v5, v6, v7, v8, v9, v10, rfl, g, hmF, Wg, ok, lL, hin, es, fo1, fd1⟩
      rw [show n - ((n : Int)).toNat = 0 by omega] at es
      have lL : L.length ≤ n := by rw [Int.toNat_natCast] at lL; exact lL
      obtain ⟨dx, ho3⟩ := Wg.ob
      refine ⟨_, rfl, o, t.C_Walk, dx, _, _, rfl, ho3, t.cl_Walk, t.nA_Walk_steps, Walk_get_steps, _, rfl, o, t.C_Walk, dx, _, _, rfl, ho3, t.cl_Walk, t.nA_Walk_row, Walk_get_row, _, rfl, o, dx, _, rfl, ho3, Walk_no (by decide +kernel) (by decide +kernel) (by decide +kernel) (by decide +kernel) (by decide +kernel) (by decide +kernel), F1, o, d, k, L, W, rfl, Wg, by omega, ?_⟩
      refine ⟨_, rfl, o, dx, _, rfl, ho3, Walk_no (by decide +kernel) (by decide +kernel) (by decide +kernel) (by decide +kernel) (by decide +kernel) (by decide +kernel), F1, o, d, k, L, W, rfl, g.fh, Wg, k1, by omega, by omega, ok.len, fun F4 G4 l xs z g4 wl al st => ⟨five_le, fun u nu => ?_⟩⟩
      exact fin (L := L) (W := W) ⟨tOnB, W.st, W.row, plB k W, W.B⟩ g es rfl g4 wl al st u nu
/-! ### the machine over blocks of two (plain) -/
def nearR (r : Int) (far : Bool) : Int := 2 * r + (if far then 1 else 0)
def ovX : ThR → Ent
  | .stay => .emp
  | .fin w s r x _ => if w = tOut then .go (2 * (s[0]?).getD 0 + (s[1]?).getD 0) x (nearR r (decide (-x = 1))) else .emp
def isStay : ThR → Bool
  | .stay => true
  | _ => false
def ovQ (M : Mach) (R q g : Nat) : ThR := thr M R 2 [(g : Int) / 2, (g : Int) % 2] ((q / 2 : Nat) : Int) (decide (q % 2 = 1))
def ovRow (M : Mach) (R q : Nat) : List Ent := (List.range 4).map fun g => ovX (ovQ M R q g)
def overM (M : Mach) (R : Nat) : Mach := (List.range (2 * R)).map (ovRow M R)
def stayRow (M : Mach) (R q : Nat) : List PI := ((List.range 4).filter fun g => isStay (ovQ M R q g)).map fun g : Nat => ⟨(q : Int), (g : Int)⟩
def stayM (M : Mach) (R : Nat) : List PI := (List.range (2 * R)).flatMap (stayRow M R)
theorem stay_len (M : Mach) (R : Nat) : ∀ n, ((List.range n).flatMap (stayRow M R)).length ≤ 4 * n
  | 0 => Nat.le_refl 0
  | n + 1 => by
    rw [List.range_succ, List.flatMap_append, List.length_append]
    have h1 := stay_len M R n
    have h2 : ([n].flatMap (stayRow M R)).length ≤ 4 := by
      show (stayRow M R n ++ []).length ≤ 4
      rw [List.append_nil]
      unfold stayRow
      rw [List.length_map]
      have h3 := List.length_filter_le (fun g => isStay (ovQ M R n g)) (List.range 4)
      rw [List.length_range] at h3
      exact h3
    omega
theorem two_of {s : List Int} (h : s.length = 2) : ∃ a b, s = [a, b] := by
  match s, h with
  | [a, b], _ => exact ⟨a, b, rfl⟩
theorem ovX_ok {M : Mach} {R : Nat} (hM : MOk M R 2) {s : List Int} (ls : s.length = 2) (hs : SOk 2 s) {row : Int} (r0 : 0 ≤ row) (r1 : row < R) (far : Bool) : EOk (2 * R) 4 (ovX (thr M R 2 s row far)) := by
  cases e : thr M R 2 s row far with
  | stay => exact ⟨fun p w r z => by cases z⟩
  | fin w s' r x m =>
    obtain ⟨_, l, hs', rr, _, _, h⟩ := thr_ok hM hs (by omega) r0 r1 e
    show EOk (2 * R) 4 (if w = tOut then _ else _)
    by_cases c : w = tOut
    · rw [if_pos c]
      obtain ⟨a, b, rfl⟩ := two_of (l.trans ls)
      have ha := hs' a List.mem_cons_self
      have hb := hs' b (List.mem_cons_of_mem _ List.mem_cons_self)
      refine ⟨fun p w r' z => ?_⟩
      cases z
      refine ⟨⟨?_, ?_⟩, (h c).1, ?_, ?_⟩
      · show 0 ≤ 2 * a + b
        omega
      · show 2 * a + b < 4
        omega
      · show 0 ≤ 2 * r + (if decide (-x = 1) = true then 1 else 0)
        split <;> omega
      · show 2 * r + (if decide (-x = 1) = true then 1 else 0) < ((2 * R : Nat) : Int)
        split <;> omega
    · rw [if_neg c]
      exact ⟨fun p w r z => by cases z⟩
theorem ovQ_ok {M : Mach} {R : Nat} (hM : MOk M R 2) {q g : Nat} (hq : q < 2 * R) (hg : g < 4) : EOk (2 * R) 4 (ovX (ovQ M R q g)) := by
  refine ovX_ok hM rfl (fun x m => ?_) (by omega) (by omega) _
  rcases List.mem_cons.mp m with rfl | m
  · omega
  · rw [List.mem_singleton.mp m]; omega
theorem over_ok {M : Mach} {R : Nat} (hM : MOk M R 2) (R2 : R ≤ 2) : MOk (overM M R) (2 * R) 4 where
  r1 := by have := hM.r1; omega
  r4 := by omega
  s2 := by decide
  s4 := by decide
  len := by unfold overM; rw [List.length_map, List.length_range]
  row := fun r m => by
    obtain ⟨q, _, rfl⟩ := List.mem_map.mp m
    unfold ovRow; rw [List.length_map, List.length_range]
  ent := fun r m e me => by
    obtain ⟨q, mq, rfl⟩ := List.mem_map.mp m
    obtain ⟨g, mg, rfl⟩ := List.mem_map.mp me
    exact ovQ_ok hM (List.mem_range.mp mq) (List.mem_range.mp mg)
theorem OkW.two {R : Nat} {W : Wk} (ok : OkW R 2 2 W) (x : Int) : ∃ a b, W.B x = [a, b] ∧ (0 ≤ a ∧ a < 2) ∧ 0 ≤ b ∧ b < 2 := by
  obtain ⟨a, b, e⟩ := two_of (ok.len x)
  have h := ok.s x
  rw [e] at h
  exact ⟨a, b, e, h a List.mem_cons_self, h b (List.mem_cons_of_mem _ List.mem_cons_self)⟩
theorem over_ent {M : Mach} {R q g : Nat} (hq : q < 2 * R) (hg : g < 4) : (((overM M R)[q]?).getD [])[g]? = some (ovX (ovQ M R q g)) := by
  have e1 : (overM M R)[q]? = some (ovRow M R q) := by unfold overM; rw [List.getElem?_map, List.getElem?_range hq]; rfl
  rw [e1]
  show (ovRow M R q)[g]? = _
  unfold ovRow
  rw [List.getElem?_map, List.getElem?_range hg]; rfl
theorem mem_stayM {M : Mach} {R q g : Nat} (hq : q < 2 * R) (hg : g < 4) : (⟨(q : Int), (g : Int)⟩ : PI) ∈ stayM M R ↔ isStay (ovQ M R q g) = true := by
  unfold stayM
  rw [List.mem_flatMap]
  constructor
  · rintro ⟨q', _, m⟩
    obtain ⟨g', mg, e⟩ := List.mem_map.mp m
    have m2 := (List.mem_filter.mp mg).2
    have e1 : (q' : Int) = q := congrArg T2.a e
    have e2 : (g' : Int) = g := congrArg T2.b e
    have e1 : q' = q := by omega
    have e2 : g' = g := by omega
    rw [e1, e2] at m2
    exact m2
  · intro h
    exact ⟨q, List.mem_range.mpr hq, by unfold stayRow; exact List.mem_map.mpr ⟨g, List.mem_filter.mpr ⟨List.mem_range.mpr hg, h⟩, rfl⟩⟩
def sign2 (p : PI) : List PI := (if p.b / 2 = 1 then [(⟨2 * p.a, 1⟩ : PI)] else []) ++ (if p.b % 2 = 1 then [(⟨2 * p.a + 1, 1⟩ : PI)] else [])
def signs2 (l : List PI) : List PI := l.flatMap sign2
theorem flatMap_congr' {α β : Type} {f g : α → List β} : ∀ {l : List α}, (∀ p ∈ l, f p = g p) → l.flatMap f = l.flatMap g
  | [], _ => rfl
  | p :: l, h => by
    rw [List.flatMap_cons, List.flatMap_cons, h p List.mem_cons_self, flatMap_congr' fun q m => h q (List.mem_cons_of_mem _ m)]
def offB (at_ : Int) (l : List PI) : List PI := l.filter fun p => !decide (p.a / 2 = at_)
/-! ### the machine over blocks in a block of two, the first one in a block of four (plain) -/
def pk (s : List Int) : Int := 2 * (s[0]?).getD 0 + (s[1]?).getD 0
def hb (h : Hv) : Bs := ⟨[pk h.h0, pk h.h1], if h.far then 1 else 0, nearR h.row h.ri⟩
theorem pk_rng {s : List Int} (l : s.length = 2) (h : SOk 2 s) : 0 ≤ pk s ∧ pk s < 4 := by
  obtain ⟨a, b, rfl⟩ := two_of l
  have ha := h a List.mem_cons_self
  have hb := h b (List.mem_cons_of_mem _ List.mem_cons_self)
  show 0 ≤ 2 * a + b ∧ 2 * a + b < 4
  omega
/-- what stands at a row and a sign of the machine over blocks -/
theorem over_at {M : Mach} {R : Nat} {s : List Int} (l : s.length = 2) (hs : SOk 2 s) {row : Int} (r0 : 0 ≤ row) (r1 : row < R) (ri : Bool) : ∃ q g : Nat, q < 2 * R ∧ g < 4 ∧ nearR row ri = q ∧ pk s = g ∧ ovQ M R q g = thr M R 2 s row ri := by
  obtain ⟨a, b, rfl⟩ := two_of l
  have ha := hs a List.mem_cons_self
  have hb := hs b (List.mem_cons_of_mem _ List.mem_cons_self)
  obtain ⟨row', rfl⟩ := Int.eq_ofNat_of_zero_le r0
  have eg : pk [a, b] = 2 * a + b := rfl
  cases ri with
  | false =>
    refine ⟨2 * row', (2 * a + b).toNat, by omega, by omega, ?_, by omega, ?_⟩
    · show 2 * (row' : Int) + 0 = _
      omega
    · unfold ovQ
      rw [show (2 * row') / 2 = row' by omega, show (2 * row') % 2 = 0 by omega, show (((2 * a + b).toNat : Nat) : Int) / 2 = a by omega, show (((2 * a + b).toNat : Nat) : Int) % 2 = b by omega]
      rfl
  | true =>
    refine ⟨2 * row' + 1, (2 * a + b).toNat, by omega, by omega, ?_, by omega, ?_⟩
    · show 2 * (row' : Int) + 1 = _
      omega
    · unfold ovQ
      rw [show (2 * row' + 1) / 2 = row' by omega, show (2 * row' + 1) % 2 = 1 by omega, show (((2 * a + b).toNat : Nat) : Int) / 2 = a by omega, show (((2 * a + b).toNat : Nat) : Int) % 2 = b by omega]
      rfl
theorem entAt_over {M : Mach} {R : Nat} {s : List Int} (l : s.length = 2) (hs : SOk 2 s) {row : Int} (r0 : 0 ≤ row) (r1 : row < R) (ri : Bool) : entAt (overM M R) (nearR row ri) (pk s) = ovX (thr M R 2 s row ri) := by
  obtain ⟨q, g, hq, hg, eq, eg, e⟩ := over_at (M := M) l hs r0 r1 ri
  show ((((overM M R)[(nearR row ri).toNat]?).getD [])[(pk s).toNat]?).getD .emp = _
  rw [eq, eg, Int.toNat_natCast, Int.toNat_natCast, over_ent hq hg, e]; rfl
theorem stay_at {M : Mach} {R : Nat} {s : List Int} (l : s.length = 2) (hs : SOk 2 s) {row : Int} (r0 : 0 ≤ row) (r1 : row < R) (ri : Bool) : (⟨nearR row ri, pk s⟩ : PI) ∈ stayM M R ↔ isStay (thr M R 2 s row ri) = true := by
  obtain ⟨q, g, hq, hg, eq, eg, e⟩ := over_at (M := M) l hs r0 r1 ri
  rw [eq, eg, ← e]
  exact mem_stayM hq hg
theorem sgB_hb (h : Hv) : sgB (hb h) = pk h.it := by
  obtain ⟨f, row, ri, h0, h1⟩ := h
  cases f <;> rfl
section
variable {M : Mach} {R : Nat} {h : Hv}
theorem ent_hb (a : HvOk R 2 2 h) : entAt (overM M R) (hb h).r (sgB (hb h)) = ovX (thr M R 2 h.it h.row h.ri) := by
  rw [sgB_hb]
  exact entAt_over a.it.1 a.it.2 a.r0 a.r1 h.ri
theorem bn_hb_emp (a : HvOk R 2 2 h) (e : ovX (thr M R 2 h.it h.row h.ri) = .emp) : bn (overM M R) (hb h) = .lv tEnd (hb h).s (hb h).r (hb h).p 0 := bn_emp ((ent_hb a).trans e)
theorem ovX_out {s : List Int} {r x m : Int} : ovX (.fin tOut s r x m) = .go (pk s) x (nearR r (decide (-x = 1))) := by
  show (if tOut = tOut then Ent.go (2 * (s[0]?).getD 0 + (s[1]?).getD 0) x (nearR r (decide (-x = 1))) else .emp) = _
  rw [if_pos rfl]; rfl
theorem ovX_end {s : List Int} {r x m : Int} : ovX (.fin tEnd s r x m) = .emp := by
  show (if tEnd = tOut then Ent.go (2 * (s[0]?).getD 0 + (s[1]?).getD 0) x (nearR r (decide (-x = 1))) else .emp) = _
  rw [if_neg (by decide +kernel)]
theorem set_hb {v : Int} {s : List Int} (e : pk s = v) (fa : Bool) (r : Int) (ri : Bool) : (hb h).s.set (hb h).p.toNat v = (hb (h.put s fa r ri)).s := by
  subst e
  obtain ⟨f, row, ri', h0, h1⟩ := h
  cases f <;> rfl
/-- one step over blocks -/
theorem bn_hb_nxt (a : HvOk R 2 2 h) {s : List Int} {r wa m : Int} (hw : wa = -1 ∨ wa = 1) (e : thr M R 2 h.it h.row h.ri = .fin tOut s r wa m) (z : h.far ≠ decide (wa = 1)) : bn (overM M R) (hb h) = .nxt (hb (h.put s (!h.far) r (!decide (wa = 1)))) := by
  have he := ent_hb (M := M) a
  rw [e, ovX_out] at he
  have hp : (hb h).p + wa = if (!h.far) then 1 else 0 := by
    rcases hw with rfl | rfl
    · have f : h.far = true := by cases f : h.far with | true => rfl | false => exact absurd f (by simpa using z)
      show (if h.far then (1 : Int) else 0) + -1 = _
      rw [f]; rfl
    · have f : h.far = false := by cases f : h.far with | false => rfl | true => exact absurd f (by simpa using z)
      show (if h.far then (1 : Int) else 0) + 1 = _
      rw [f]; rfl
  have hin : 0 ≤ (hb h).p + wa ∧ (hb h).p + wa < ((hb h).s.length : Int) := by
    rw [hp]
    show _ ∧ _ < (2 : Int)
    cases h.far <;> decide
  rw [bn_go he hin, set_hb (h := h) rfl (!h.far) r (!decide (wa = 1)), hp]
  have e2 : decide (-wa = 1) = !decide (wa = 1) := by rcases hw with rfl | rfl <;> decide
  rw [e2]
  rfl
theorem bn_hb_out (a : HvOk R 2 2 h) {s : List Int} {r wa m : Int} (hw : wa = -1 ∨ wa = 1) (e : thr M R 2 h.it h.row h.ri = .fin tOut s r wa m) (z : h.far = decide (wa = 1)) : bn (overM M R) (hb h) = .lv tOut (hb (h.put s h.far r h.ri)).s (nearR r (decide (-wa = 1))) wa 1 := by
  have he := ent_hb (M := M) a
  rw [e, ovX_out] at he
  have hin : ¬ (0 ≤ (hb h).p + wa ∧ (hb h).p + wa < ((hb h).s.length : Int)) := by
    have hp : (hb h).p = if h.far then 1 else 0 := rfl
    rw [hp, z]
    show ¬ (_ ∧ _ < (2 : Int))
    rcases hw with rfl | rfl <;> decide
  rw [bn_out he hin, set_hb (h := h) rfl h.far r h.ri]
/-- all steps over blocks -/
theorem tj_hb (hM : MOk M R 2) {W : Bs} : ∀ (i k : Nat) (h : Hv) (b' : Bs), HvOk R 2 2 h → tj M k W = some h.bs → tj (overM M R) i (hb h) = some b' → ∃ (h' : Hv) (k' : Nat), HvOk R 2 2 h' ∧ b' = hb h' ∧ k + i ≤ k' ∧ tj M k' W = some h'.bs
  | 0, k, h, b', a, t, e => by cases e; exact ⟨h, k, a, rfl, Nat.le_refl k, t⟩
  | i + 1, k, h, b', a, t, e => by
    cases et : thr M R 2 h.it h.row h.ri with
    | stay => rw [tj_lv (bn_hb_emp a (by rw [et]; rfl))] at e; cases e
    | fin w s r x m =>
      rcases (thr_ok hM a.it.2 (by rw [a.it.1]; decide) a.r0 a.r1 et).1 with rfl | rfl
      · rw [tj_lv (bn_hb_emp a (by rw [et]; exact ovX_end))] at e; cases e
      · obtain ⟨hw, j, ej, _, hn⟩ := hv_out hM (by decide) a et t
        by_cases z : h.far = decide (x = 1)
        · rw [tj_lv (bn_hb_out a hw et z)] at e; cases e
        · obtain ⟨a2, t2⟩ := hn z
          rw [tj_nxt (bn_hb_nxt a hw et z)] at e
          obtain ⟨h', k', a', eb, lk, t'⟩ := tj_hb hM i (k + (j + 1)) _ b' a2 t2 e
          exact ⟨h', k', a', eb, by omega, t'⟩
theorem Hv.bs_st (a : HvOk R 2 2 h) (hf : h.ri = h.far) : h.bs = st0 (h.h0 ++ h.h1) h.row h.far := by
  obtain ⟨f, row, ri, h0, h1⟩ := h
  have l0 : h0.length = 2 := a.l0
  have l1 : h1.length = 2 := a.l1
  have hf : ri = f := hf
  subst hf
  cases ri with
  | false => rfl
  | true =>
    show (⟨h0 ++ h1, (h0.length : Int) + ((h1.length : Int) - 1), row⟩ : Bs) = ⟨h0 ++ h1, ((h0 ++ h1).length : Int) - 1, row⟩
    rw [List.length_append]
    congr 1
    omega
theorem Hv.hb_st (hf : h.ri = h.far) : hb h = st0 [pk h.h0, pk h.h1] (nearR h.row h.far) h.far := by
  obtain ⟨f, row, ri, h0, h1⟩ := h
  have hf : ri = f := hf
  subst hf
  cases ri <;> rfl
/-- both of a block -/
inductive Both (M : Mach) (R : Nat) (T2 T4 : ThR) : Prop where
  | out (h : Hv) (wa m2 m4 : Int) (a : HvOk R 2 2 h) (hw : wa = -1 ∨ wa = 1) (e2 : T2 = .fin tOut [pk h.h0, pk h.h1] (nearR h.row (decide (-wa = 1))) wa m2) (e4 : T4 = .fin tOut (h.h0 ++ h.h1) h.row wa m4) (le : m2 ≤ m4)
  | stay (e2 : T2 = .stay) (e4 : T4 = .stay)
  | inn (h : Hv) (m2 : Int) (a : HvOk R 2 2 h) (e2 : T2 = .fin tEnd [pk h.h0, pk h.h1] (nearR h.row h.ri) (if h.far then 1 else 0) m2) (es : isStay (thr M R 2 h.it h.row h.ri) = true) (e4 : T4 = .stay)
  | ends (h : Hv) (m2 m4 r x : Int) (s : List Int) (a : HvOk R 2 2 h) (e2 : T2 = .fin tEnd [pk h.h0, pk h.h1] (nearR h.row h.ri) (if h.far then 1 else 0) m2) (es : isStay (thr M R 2 h.it h.row h.ri) = false) (ls : s.length = 2) (hs : SOk 2 s) (hx : 0 ≤ x ∧ x < 2)
      (e4 : T4 = .fin tEnd (if h.far then h.h0 ++ s else s ++ h.h1) r ((if h.far then 2 else 0) + x) m4) (le : m2 ≤ m4)
theorem four (hM : MOk M R 2) (R2 : R ≤ 2) (a : HvOk R 2 2 h) (hf : h.ri = h.far) : Both M R (thr (overM M R) (2 * R) 4 [pk h.h0, pk h.h1] (nearR h.row h.far) h.far) (thr M R 2 (h.h0 ++ h.h1) h.row h.far) := by
  have hO := over_ok hM R2
  have s4 : SOk 2 (h.h0 ++ h.h1) := a.s0.app a.s1
  have l4 : 1 ≤ (h.h0 ++ h.h1).length := by rw [List.length_append, a.l0]; omega
  have s2 : SOk 4 [pk h.h0, pk h.h1] := fun x m => by
    rcases List.mem_cons.mp m with rfl | m
    · exact pk_rng a.l0 a.s0
    · rw [List.mem_singleton.mp m]; exact pk_rng a.l1 a.s1
  have l2 : 1 ≤ [pk h.h0, pk h.h1].length := by show 1 ≤ 2; decide
  have ρ0 : 0 ≤ nearR h.row h.far ∧ nearR h.row h.far < ((2 * R : Nat) : Int) := by
    have := a.r0; have := a.r1
    unfold nearR
    split <;> omega
  have t0 : tj M 0 (st0 (h.h0 ++ h.h1) h.row h.far) = some h.bs := by rw [Hv.bs_st a hf]; rfl
  have eb := Hv.hb_st (h := h) hf
  cases e2 : thr (overM M R) (2 * R) 4 [pk h.h0, pk h.h1] (nearR h.row h.far) h.far with
  | stay =>
    have nv := thr_stay hO s2 l2 ρ0.1 ρ0.2 e2
    refine .stay rfl (thr_nv fun n => ?_)
    rw [← eb] at nv
    cases e : tj (overM M R) n (hb h) with
    | none => exact absurd e (nv n)
    | some b' =>
      obtain ⟨h', k', _, _, lk, t'⟩ := tj_hb hM n 0 h b' a t0 e
      exact tj_le (n := k') (by omega) (by rw [t']; exact fun z => nomatch z)
  | fin w s r x m =>
    obtain ⟨i, c, d, t1, t2, t3⟩ := thr_fin e2
    rw [← eb] at t1
    obtain ⟨h', k', a', rfl, lk, t'⟩ := tj_hb hM i 0 h c a t0 t1
    cases et : thr M R 2 h'.it h'.row h'.ri with
    | stay =>
      rw [bn_hb_emp a' (by rw [et]; rfl)] at t2
      cases t2
      exact .inn h' m a' rfl (by rw [et]; rfl) (thr_nv (hv_stay hM (by decide) a' et t'))
    | fin w' s' r' x' m' =>
      obtain ⟨hw', ls', hs', rr', m0', hx', ho'⟩ := thr_ok hM a'.it.2 (by rw [a'.it.1]; decide) a'.r0 a'.r1 et
      rw [a'.it.1] at ls'
      rcases hw' with rfl | rfl
      · rw [bn_hb_emp a' (by rw [et]; exact ovX_end)] at t2
        cases t2
        obtain ⟨j, c, tc, bc, ej⟩ := hv_end hM (by decide) a' et t'
        have e4 := thr_of hM s4 l4 a.r0 a.r1 tc bc
        have hx2 := hx' rfl
        rw [a'.it.1] at hx2
        refine .ends h' m (((k' + j : Nat) : Int) + 0) r' x' s' a' rfl (by rw [et]; rfl) ls' hs' hx2 ?_ (by omega)
        rw [e4]
        obtain ⟨f, row, ri, h0, h1⟩ := h'
        cases f <;> rfl
      · obtain ⟨hw, j, ej, ho, _⟩ := hv_out hM (by decide) a' et t'
        by_cases z : h'.far = decide (x' = 1)
        · rw [bn_hb_out a' hw et z] at t2
          cases t2
          obtain ⟨c, tc, bc⟩ := ho z
          have e4 := thr_of hM s4 l4 a.r0 a.r1 tc bc
          refine .out (h'.put s' h'.far r' h'.ri) x m (((k' + j : Nat) : Int) + 1) ?_ hw rfl e4 (by omega)
          obtain ⟨f, row, ri, h0, h1⟩ := h'
          cases f
          · exact ⟨ls', a'.l1, hs', a'.s1, rr'.1, rr'.2⟩
          · exact ⟨a'.l0, ls', a'.s0, hs', rr'.1, rr'.2⟩
        · rw [bn_hb_nxt a' hw et z] at t2
          cases t2
end
/-! ### walks by blocks: of two over blocks, of four (plain) -/
def sp2 (g : Int) : List Int := [g / 2, g % 2]
structure RB (OB WB : Int → List Int) : Prop where
  ex : ∀ x, ∃ h0 h1, WB x = h0 ++ h1 ∧ OB x = [pk h0, pk h1] ∧ h0.length = 2 ∧ h1.length = 2 ∧ SOk 2 h0 ∧ SOk 2 h1
theorem RB.upd {OB WB : Int → List Int} (h : RB OB WB) (at_ : Int) {h0 h1 : List Int} (l0 : h0.length = 2) (l1 : h1.length = 2) (s0 : SOk 2 h0) (s1 : SOk 2 h1) : RB (updB OB at_ [pk h0, pk h1]) (updB WB at_ (h0 ++ h1)) := ⟨fun x => by
  unfold updB
  by_cases e : x = at_
  · rw [if_pos e, if_pos e]; exact ⟨h0, h1, rfl, rfl, l0, l1, s0, s1⟩
  · rw [if_neg e, if_neg e]; exact h.ex x⟩
theorem RB.rng {OB WB : Int → List Int} (h : RB OB WB) (x : Int) : 0 ≤ fB 2 OB x ∧ fB 2 OB x < 4 := by
  obtain ⟨h0, h1, _, e, l0, l1, s0, s1⟩ := h.ex (x / ((2 : Nat) : Int))
  have p0 := pk_rng l0 s0
  have p1 := pk_rng l1 s1
  unfold fB
  rw [e]
  have : x % ((2 : Nat) : Int) = 0 ∨ x % ((2 : Nat) : Int) = 1 := by omega
  rcases this with k | k <;> rw [k]
  · exact p0
  · exact p1
theorem RB.fB {OB WB : Int → List Int} (h : RB OB WB) (y : Int) : E.fB 4 WB y = E.fB 2 (fun x => sp2 (E.fB 2 OB x)) y := by
  obtain ⟨h0, h1, e, e', l0, l1, s0, s1⟩ := h.ex (y / 4)
  obtain ⟨a, b, rfl⟩ := two_of l0
  obtain ⟨c, d, rfl⟩ := two_of l1
  have ha := s0 a List.mem_cons_self
  have hb := s0 b (List.mem_cons_of_mem _ List.mem_cons_self)
  have hc := s1 c List.mem_cons_self
  have hd := s1 d (List.mem_cons_of_mem _ List.mem_cons_self)
  have e1 : E.fB 4 WB y = (([a, b, c, d] : List Int)[(y % 4).toNat]?).getD 0 := by
    show ((WB (y / 4))[(y % 4).toNat]?).getD 0 = _
    rw [e]; rfl
  have e2 : E.fB 2 OB (y / 2) = (([2 * a + b, 2 * c + d] : List Int)[(y / 2 % 2).toNat]?).getD 0 := by
    show ((OB (y / 2 / 2))[(y / 2 % 2).toNat]?).getD 0 = _
    rw [show y / 2 / 2 = y / 4 by omega, e']; rfl
  have e3 : E.fB 2 (fun x => sp2 (E.fB 2 OB x)) y = ((sp2 (E.fB 2 OB (y / 2)))[(y % 2).toNat]?).getD 0 := rfl
  rw [e1, e3, e2]
  have hj : y % 4 = 0 ∨ y % 4 = 1 ∨ y % 4 = 2 ∨ y % 4 = 3 := by omega
  rcases hj with j | j | j | j
  · rw [j, show y / 2 % 2 = 0 by omega, show y % 2 = 0 by omega]
    show a = (2 * a + b) / 2
    omega
  · rw [j, show y / 2 % 2 = 0 by omega, show y % 2 = 1 by omega]
    show b = (2 * a + b) % 2
    omega
  · rw [j, show y / 2 % 2 = 1 by omega, show y % 2 = 0 by omega]
    show c = (2 * c + d) / 2
    omega
  · rw [j, show y / 2 % 2 = 1 by omega, show y % 2 = 1 by omega]
    show d = (2 * c + d) % 2
    omega
theorem signs2_gen {z : List PI} {g : Int → Int} (st : IsSt z g) (hg : ∀ x, 0 ≤ g x ∧ g x < 4) : IsSt (signs2 z) (fB 2 (fun x => sp2 (g x))) := by
  have e : signs2 z = stripO 2 (fun x => sp2 (g x)) (z.map (·.a)) := by
    unfold signs2 stripO
    rw [List.flatMap_map]
    refine flatMap_congr' fun p m => ?_
    obtain ⟨h1, h2⟩ := st.nz m
    have hr := hg p.a
    rw [h1] at hr
    show sign2 p = piece (p.a * ((2 : Nat) : Int)) (sp2 (g p.a))
    rw [h1]
    unfold sign2 sp2
    show _ = (if p.b / 2 ≠ 0 then [(⟨p.a * ((2 : Nat) : Int), p.b / 2⟩ : PI)] else []) ++ ((if p.b % 2 ≠ 0 then [(⟨p.a * ((2 : Nat) : Int) + 1, p.b % 2⟩ : PI)] else []) ++ [])
    rw [List.append_nil, show p.a * ((2 : Nat) : Int) = 2 * p.a by omega]
    have ha2 : p.b / 2 = 0 ∨ p.b / 2 = 1 := by omega
    have hb2 : p.b % 2 = 0 ∨ p.b % 2 = 1 := by omega
    rcases ha2 with k1 | k1 <;> rcases hb2 with k2 | k2 <;> rw [k1, k2] <;> rfl
  rw [e]
  refine strip_ok (k := 2) (by decide) (fun _ => rfl) (List.pairwise_map.mpr st.rise) fun x hx v hv => ?_
  have z0 : g x = 0 := by
    by_cases k : g x = 0
    · exact k
    · exact absurd (List.mem_map.mpr ⟨_, (st.mem x _).mpr ⟨rfl, k⟩, rfl⟩) hx
  rw [z0] at hv
  rcases List.mem_cons.mp hv with rfl | hv
  · rfl
  · rw [List.mem_singleton.mp hv]; rfl
theorem offB_gen {at_ : Int} {f g : Int → Int} {l m : List PI} (hl : IsSt l f) (hm : IsSt m g) (k : ∀ y, y / 2 ≠ at_ → g y = f y) : offB at_ m = offB at_ l := by
  refine rise_eq (hm.rise.filter _) (hl.rise.filter _) fun p => ?_
  unfold offB
  rw [List.mem_filter, List.mem_filter]
  constructor
  · rintro ⟨m1, h⟩
    have := (hm.mem p.a p.b).mp m1
    rw [k p.a (by simpa using h)] at this
    exact ⟨(hl.mem p.a p.b).mpr this, h⟩
  · rintro ⟨m1, h⟩
    have := (hl.mem p.a p.b).mp m1
    rw [← k p.a (by simpa using h)] at this
    exact ⟨(hm.mem p.a p.b).mpr this, h⟩
theorem st_nd {z : List PI} {g : Int → Int} (st : IsSt z g) : Nd z := List.pairwise_map.mpr (st.rise.imp fun {p q} h e => by omega)
theorem look_st {z : List PI} {g : Int → Int} (st : IsSt z g) (x : Int) : ((look z x).map V.int).getD (.int 0) = .int (g x) := by
  cases e : look z x with
  | none =>
    show V.int 0 = V.int _
    by_cases z0 : g x = 0
    · rw [z0]
    · have := (st.mem x _).mpr ⟨rfl, z0⟩
      rw [look_mem (st_nd st) this] at e
      cases e
  | some y =>
    show V.int y = V.int _
    rw [((st.mem x y).mp (mem_look e)).1]
structure WR (O W : Wk) : Prop where
  at_ : O.at_ = W.at_
  far : O.far = W.far
  row : O.row = nearR W.row W.far
  st : O.st ≤ W.st
  B : RB O.B W.B
/-- what is told of both walks -/
inductive BothW (M : Mach) (R : Nat) (Yo Ym : ByR) : Prop where
  | same (w : TStr) (O W : Wk) (ok : OkW R 2 4 W) (wr : WR O W) (hw : w = tOnB ∨ w = tStay) (eo : Yo = ⟨w, O.st, O.row, plB 2 O, O.B⟩) (em : Ym = ⟨w, W.st, W.row, plB 4 W, W.B⟩)
  | inn (O W : Wk) (ok : OkW R 2 4 W) (wr : WR O W) (h : Hv) (m2 : Int) (a : HvOk R 2 2 h) (es : isStay (thr M R 2 h.it h.row h.ri) = true) (eo : Yo = ⟨tEnd, O.st + m2, nearR h.row h.ri, O.at_ * 2 + (if h.far then 1 else 0), updB O.B O.at_ [pk h.h0, pk h.h1]⟩) (em : Ym = ⟨tStay, W.st, W.row, plB 4 W, W.B⟩)
  | ends (O W : Wk) (ok : OkW R 2 4 W) (wr : WR O W) (h : Hv) (m2 m4 r x : Int) (s : List Int) (a : HvOk R 2 2 h) (es : isStay (thr M R 2 h.it h.row h.ri) = false) (ls : s.length = 2) (hx : 0 ≤ x ∧ x < 2) (le : m2 ≤ m4)
      (eo : Yo = ⟨tEnd, O.st + m2, nearR h.row h.ri, O.at_ * 2 + (if h.far then 1 else 0), updB O.B O.at_ [pk h.h0, pk h.h1]⟩) (em : Ym = ⟨tEnd, W.st + m4, r, W.at_ * 4 + ((if h.far then 2 else 0) + x), updB W.B W.at_ (if h.far then h.h0 ++ s else s ++ h.h1)⟩)
theorem walk4 {M : Mach} {R : Nat} (hM : MOk M R 2) (R2 : R ≤ 2) : ∀ (n : Nat) (O W : Wk), OkW R 2 4 W → WR O W → BothW M R (byB (overM M R) (2 * R) 4 2 n O) (byB M R 2 4 n W)
  | 0, O, W, ok, wr => .same tOnB O W ok wr (.inl rfl) rfl rfl
  | n + 1, O, W, ok, wr => by
    obtain ⟨h0, h1, eW, eO, l0, l1, s0, s1⟩ := wr.B.ex W.at_
    have bo := four (h := ⟨W.far, W.row, W.far, h0, h1⟩) hM R2 ⟨l0, l1, s0, s1, ok.r0, ok.r1⟩ rfl
    have bo : Both M R (thr (overM M R) (2 * R) 4 [pk h0, pk h1] (nearR W.row W.far) W.far) (thr M R 2 (h0 ++ h1) W.row W.far) := bo
    rw [← eW, ← eO, ← wr.row, ← wr.at_] at bo
    have bo : Both M R (thr (overM M R) (2 * R) 4 (O.B O.at_) O.row W.far) (thr M R 2 (W.B O.at_) W.row W.far) := bo
    rw [← wr.far] at bo
    rw [wr.at_, wr.far] at bo
    rw [← wr.far] at bo
    have bo : Both M R (thr (overM M R) (2 * R) 4 (O.B W.at_) O.row O.far) (thr M R 2 (W.B W.at_) W.row O.far) := bo
    rcases bo with ⟨h, wa, m2, m4, a, hw, e2, e4, le⟩ | ⟨e2, e4⟩ | ⟨h, m2, a, e2, es, e4⟩ | ⟨h, m2, m4, r, x, s, a, e2, es, ls, hs, hx, e4, le⟩
    all_goals
      rw [wr.far] at e4
      rw [← wr.at_] at e2
    · rw [byB_out e2, byB_out e4]
      refine walk4 hM R2 n _ _ (ok.out hM (by decide) e4) ⟨by show O.at_ + wa = W.at_ + wa; rw [wr.at_], rfl, rfl, by show O.st + m2 ≤ W.st + m4; have := wr.st; omega, ?_⟩
      have := wr.B.upd W.at_ a.l0 a.l1 a.s0 a.s1
      show RB (updB O.B O.at_ _) (updB W.B W.at_ _)
      rw [wr.at_]; exact this
    · rw [byB_stay e2, byB_stay e4]
      exact .same tStay O W ok wr (.inr rfl) rfl rfl
    · rw [byB_end e2, byB_stay e4]
      exact .inn O W ok wr h m2 a es rfl rfl
    · rw [byB_end e2, byB_end e4]
      exact .ends O W ok wr h m2 m4 r x s a es ls hx le rfl rfl
theorem W0_wr : WR (W0 2) (W0 4) := ⟨rfl, rfl, rfl, Int.le_refl 0, ⟨fun _ => ⟨[0, 0], [0, 0], rfl, rfl, rfl, rfl, fun x m => by
  rcases List.mem_cons.mp m with rfl | m
  · decide
  · rw [List.mem_singleton.mp m]; decide, fun x m => by
  rcases List.mem_cons.mp m with rfl | m
  · decide
  · rw [List.mem_singleton.mp m]; decide⟩⟩⟩
/-! ### entries over blocks -/
def sp_must_blocks : Sp := fun vs H Q _ => ∃ (F : Hp) (m : V) (M : Mach) (R : Nat), vs = [m] ∧ Same F H ∧ Is F m M ∧ MOk M R 2 ∧ R ≤ 2 ∧ ∀ H', Gr mu0 F H F H' → Q .non H'
theorem ok_must_blocks (t : Tx K mg) : FnOk P w K mg base CX0 4 t.a_must_blocks t.fd_must_blocks ["machine"] sp_must_blocks := by
  refine t.F_must_blocks.ok sc_must_blocks (fun vs H Q E h => ?_) (fun cdv A outer s H vs Q E hr h => ?_)
  · obtain ⟨F, m, M, R, rfl, _⟩ := h
    rfl
  · obtain ⟨F, m, M, R, rfl, sF, hm, hM, R2, q⟩ := h
    refine ⟨_, (pss_cons (ps_expr (pe_call (ok_must_machine t) (hr.mono (by decide)) (by rfl) t.m_must_machine t.F_must_machine.kp t.b_must_machine .nil pass0 (pa_cons (pv 0) pa_nil)))
      (pss_one (ps_if (PW.pt (pw_or (pt_cmpR op_gt (pe_callB (id := "len") call_lenQ (by rfl) t.n_len (by decide +kernel) (pa_cons (pv 0) pa_nil)) (pe_glob (v := .int 2) (by rfl) t.m_MOST_ROWS_blocked ⟨_, rfl⟩) (nomark _)) (pw_or1 (pt_cmpR op_ne (pe_callB (id := "len") call_lenQ (by rfl) t.n_len (by decide +kernel) (pa_cons (pe_ix ix_list (pv 0) pe_int (fun _ _ => rfl)) pa_nil)) pe_int (nomark _))))) (pss_one ps_never) pss_nil))), ?_⟩
    refine ⟨_, rfl, F, m, M, R, 2, rfl, sF, hm, hM, fun H1 g1 => ?_⟩
    obtain ⟨a, rs, rfl, ha, hrs⟩ := id hm
    have lrs : rs.length = R := hrs.1.trans hM.len
    have r1 := hM.r1
    have h0 : rs[0]? = some rs[0] := List.getElem?_eq_getElem (by omega)
    obtain ⟨row, hrow, b, es, e0, hb, hes⟩ := hrs.get' h0
    have lrow := hM.row _ (List.mem_of_getElem? hrow)
    have les : es.length = 2 := hes.1.trans lrow
    rw [e0] at h0
    refine ⟨_, rfl, a, _, rfl, .inl (SqL.of (g1.fh _ _ ha)), _, _, rfl, rfl, _, rfl, ifF (decide_eq_false (by rw [lrs]; omega)) ?_⟩
    refine ⟨_, rfl, a, _, _, _, rfl, rfl, SqL.of (g1.fh _ _ ha), atI_nat (j := 0) h0, b, _, rfl, .inl (SqL.of (g1.fh _ _ hb)), rfl, _, rfl, ifF (by rw [les]; rfl) ?_⟩
    exact q _ g1
def sp_near_row : Sp := fun vs H Q _ => ∃ (r side : Int), vs = [.int r, .int side] ∧ (side = -1 ∨ side = 1) ∧ Q (.int (nearR r (decide (side = 1)))) H
theorem ok_near_row (t : Tx K mg) : FnOk P w K mg base CX0 1 t.a_near_row t.fd_near_row ["row", "side"] sp_near_row := by
  refine t.F_near_row.ok sc_near_row (fun vs H Q E h => ?_) (fun cdv A outer s H vs Q E hr h => ?_)
  · obtain ⟨r, side, rfl, _⟩ := h
    rfl
  · obtain ⟨r, side, rfl, hs, q⟩ := h
    refine ⟨_, (pss_cons (ps_if (pt_cmpR op_eq (pv 1) (pe_un un_neg pe_int) (nomark _)) (pss_one (ps_ret (pe_op op_mul pe_int (pv 0)))) pss_nil)
      (pss_one (ps_ret (pe_op op_add (pe_op op_mul pe_int (pv 0)) pe_int)))), ?_⟩
    refine ⟨_, rfl, _, rfl, rfl, _, rfl, ?_⟩
    rcases hs with rfl | rfl
    · refine ifT rfl ⟨_, rfl, _, _, rfl, rfl, .inl ⟨by decide, by decide⟩, ?_⟩
      have e : nearR r (decide ((-1 : Int) = 1)) = 2 * r := by unfold nearR; rw [if_neg (by decide)]; omega
      rw [e] at q; exact q
    · refine ifF rfl ⟨_, rfl, _, _, rfl, rfl, .inl ⟨by decide, by decide⟩, _, _, rfl, rfl, ?_⟩
      have e : nearR r (decide ((1 : Int) = 1)) = 2 * r + 1 := by unfold nearR; rw [if_pos (by decide)]
      rw [e] at q; exact q
theorem w_out (w : TStr) (h : w = tEnd ∨ w = tOut) : (!decide (V.str w.x = V.str "out")) = decide (w = tEnd) ∧ decide (V.str w.x = V.str "stay") = false := by
  rcases h with rfl | rfl
  · exact ⟨by decide +kernel, by decide +kernel⟩
  · exact ⟨by decide +kernel, by decide +kernel⟩
def sp_entry_over : Sp := fun vs H Q _ => ∃ (F : Hp) (m : V) (M : Mach) (R : Nat) (row side : Int) (g : Nat), vs = [m, .int row, .int side, .int g] ∧ Same F H ∧ Is F m M ∧ MOk M R 2 ∧ 0 ≤ row ∧ row < R ∧ (side = -1 ∨ side = 1) ∧ g < 4 ∧
  ∀ (F' H' : Hp) (u : Addr) (e : V), Gr mu0 F H F' H' → F' u = some (.tup [e, .bl (isStay (thr M R 2 [(g : Int) / 2, (g : Int) % 2] row (decide (side = 1))))]) → Is F' e (ovX (thr M R 2 [(g : Int) / 2, (g : Int) % 2] row (decide (side = 1)))) → Q (.ref u) H'
theorem ok_entry_over (t : Tx K mg) : FnOk P w K mg base CX0 5 t.a_entry_over t.fd_entry_over ["machine", "row", "side", "sign"] sp_entry_over := by
  refine t.F_entry_over.ok sc_entry_over (fun vs H Q E h => ?_) (fun cdv A outer s H vs Q E hr h => ?_)
  · obtain ⟨F, m, M, R, row, side, g, rfl, _⟩ := h
    rfl
  · obtain ⟨F, m, M, R, row, side, g, rfl, sF, hm, hM, r0, r1, hs, hg, q⟩ := h
    refine ⟨_, (pss_cons (ps_set (i := 4) sc_entry_over.nd rfl (by first | exact Or.inl rfl | exact Or.inr rfl) (pe_call (ok_through t) (hr.mono (by decide)) (by rfl) t.m_through t.F_through.kp t.b_through .nil pass0 (pa_cons (pv 0) (pa_cons (pe_tup (pa_cons (pe_op op_fdiv (pv 3) pe_int) (pa_cons (pe_op op_mod (pv 3) pe_int) pa_nil))) (pa_cons (pv 1) (pa_cons (pv 2) pa_nil))))))
      (pss_cons (ps_if (pt_cmpR op_ne (pe_ix ix_tup (pv 4) pe_int (fun _ _ => rfl)) pe_str (nomark _)) (pss_one (ps_ret (pe_tup (pa_cons (pe_tup pa_nil) (pa_cons (pe_cmpR op_eq (pe_ix ix_tup (pv 4) pe_int (fun _ _ => rfl)) pe_str (nomark _)) pa_nil))))) pss_nil)
      (pss_cons (ps_asg (pv 4) (pg_tup rfl (pgs_cons (pg_name (i := 5) sc_entry_over.nd rfl (by first | exact Or.inl rfl | exact Or.inr rfl)) (pgs_cons (pg_name (i := 6) sc_entry_over.nd rfl (by first | exact Or.inl rfl | exact Or.inr rfl)) (pgs_cons (pg_name (i := 7) sc_entry_over.nd rfl (by first | exact Or.inl rfl | exact Or.inr rfl)) (pgs_cons (pg_name (i := 8) sc_entry_over.nd rfl (by first | exact Or.inl rfl | exact Or.inr rfl)) (pgs_cons (pg_name (i := 9) sc_entry_over.nd rfl (by first | exact Or.inl rfl | exact Or.inr rfl)) pgs_nil)))))))
      (pss_one (ps_ret (pe_tup (pa_cons (pe_tup (pa_cons (pe_op op_add (pe_op op_mul pe_int (pe_ix ix_tup (pv 6) pe_int (fun _ _ => rfl))) (pe_ix ix_tup (pv 6) pe_int (fun _ _ => rfl))) (pa_cons (pv 8) (pa_cons (pe_call (ok_near_row t) (hr.mono (by decide)) (by rfl) t.m_near_row t.F_near_row.kp t.b_near_row .nil pass0 (pa_cons (pv 7) (pa_cons (pe_un un_neg (pv 8)) pa_nil))) pa_nil)))) (pa_cons pe_bl pa_nil)))))))), ?_⟩
    have g0 : Gr mu0 F H F H := Gr.refl sF
    refine ⟨_, rfl, _, rfl, _, _, rfl, rfl, ⟨by decide, by decide⟩, _, rfl, _, _, rfl, rfl, (by show (0 : Int) < 2; decide), two_le, fun b nb => ?_⟩
    dsimp only
    have g1 := g0.new (o := .tup [.int ((g : Int) / 2), .int ((g : Int) % 2)]) nb
    have hb : (upd F b (.tup [.int ((g : Int) / 2), .int ((g : Int) % 2)])) b = some (.tup ([(g : Int) / 2, (g : Int) % 2].map V.int)) := upd_same
    have hm1 := hm.up g1.ff
    generalize upd F b (.tup [.int ((g : Int) / 2), .int ((g : Int) % 2)]) = F1 at g1 hb hm1
    generalize upd H b (.tup [.int ((g : Int) / 2), .int ((g : Int) % 2)]) = H1 at g1 ⊢
    have hS : SOk 2 [(g : Int) / 2, (g : Int) % 2] := fun x m => by
      rcases List.mem_cons.mp m with rfl | m
      · omega
      · rw [List.mem_singleton.mp m]; omega
    have L1 : 1 ≤ [(g : Int) / 2, (g : Int) % 2].length := by show 1 ≤ 2; decide
    have L8 : [(g : Int) / 2, (g : Int) % 2].length ≤ 8 := by show 2 ≤ 8; decide
    refine ⟨_, rfl, _, rfl, F1, m, b, M, R, 2, [(g : Int) / 2, (g : Int) % 2], row, side, rfl, g1.fh, hm1, hM, hb, hS, L1, L8, r0, r1, fun F2 H2 v g2 hv => ?_⟩
    have gg := g1.trans g2
    cases et : thr M R 2 [(g : Int) / 2, (g : Int) % 2] row (decide (side = 1)) with
    | stay =>
      rw [et] at hv q
      obtain ⟨p, rfl, hp⟩ := hv
      have hT := SqT.of (K := K) (gg.fh _ _ hp)
      refine ⟨_, rfl, p, _, _, _, rfl, rfl, hT, atI_nat (j := 0) rfl, rfl, _, rfl, ifT (by decide +kernel) ?_⟩
      refine ⟨nil_le, fun e ne => ?_⟩
      have g3 := gg.new (o := .tup []) ne
      have he : Is (upd F2 e (.tup [])) (.ref e) Ent.emp := ⟨e, rfl, upd_same⟩
      have hp3 := g3.fh _ _ ((sm_up (gg.fh.free ne) : Same F2 (upd F2 e (.tup []))) _ _ hp)
      generalize upd F2 e (.tup []) = F3 at g3 he
      generalize upd H2 e (.tup []) = H3 at g3 hp3 ⊢
      refine ⟨_, rfl, p, _, _, _, rfl, rfl, SqT.of hp3, atI_nat (j := 0) rfl, rfl, two_le, fun u nu => ?_⟩
      exact q _ _ u (.ref e) (g3.new nu) (by rw [upd_same]; rfl) (he.up (sm_up (g3.fh.free nu)))
    | fin w s r x n =>
      rw [et] at hv q
      obtain ⟨hw, ls, _, _, _, _, _⟩ := thr_ok hM hS L1 r0 r1 et
      obtain ⟨p, q2, rfl, hp, hq⟩ := hv
      obtain ⟨wo, ws⟩ := w_out w hw
      obtain ⟨s0, s1, rfl⟩ := two_of ls
      have hT := SqT.of (K := K) (gg.fh _ _ hp)
      refine ⟨_, rfl, p, _, _, _, rfl, rfl, hT, atI_nat (j := 0) rfl, rfl, _, rfl, ?_⟩
      rw [wo]
      rcases hw with rfl | rfl
      · refine ifT (by decide +kernel) ?_
        refine ⟨nil_le, fun e ne => ?_⟩
        have g3 := gg.new (o := .tup []) ne
        have he : Is (upd F2 e (.tup [])) (.ref e) Ent.emp := ⟨e, rfl, upd_same⟩
        have hp3 := g3.fh _ _ ((sm_up (gg.fh.free ne) : Same F2 (upd F2 e (.tup []))) _ _ hp)
        generalize upd F2 e (.tup []) = F3 at g3 he
        generalize upd H2 e (.tup []) = H3 at g3 hp3 ⊢
        refine ⟨_, rfl, p, _, _, _, rfl, rfl, SqT.of hp3, atI_nat (j := 0) rfl, rfl, two_le, fun u nu => ?_⟩
        rw [ws]
        exact q _ _ u (.ref e) (g3.new nu) upd_same (he.up (sm_up (g3.fh.free nu)))
      · refine ifF (by decide +kernel) ?_
        have hq2 := SqT.of (K := K) (gg.fh _ _ hq)
        refine ⟨_, rfl, p, _, rfl, hT, rfl, _, _, rfl, _, _, rfl, _, _, rfl, _, _, rfl, _, _, rfl, rfl, ?_⟩
        have hx : x = -1 ∨ x = 1 := ((thr_ok hM hS L1 r0 r1 et).2.2.2.2.2.2 rfl).1
        refine ⟨_, rfl, q2, _, _, _, rfl, rfl, hq2, atI_nat (j := 0) rfl, _, _, rfl, rfl, .inl ⟨by decide, by decide⟩, _, rfl, q2, _, _, _, rfl, rfl, hq2, atI_nat (j := 1) rfl, _, _, rfl, rfl, _, rfl, _, rfl, _, rfl, _, rfl, r, -x, rfl, by omega, three_le, fun e ne => ?_⟩
        have eo : ovX (.fin tOut [s0, s1] r x n) = Ent.go (2 * s0 + s1) x (nearR r (decide (-x = 1))) := by
          show (if tOut = tOut then Ent.go (2 * (([s0, s1] : List Int)[0]?).getD 0 + (([s0, s1] : List Int)[1]?).getD 0) x (nearR r (decide (-x = 1))) else .emp) = _
          rw [if_pos rfl]; rfl
        rw [eo] at q
        have g3 := gg.new (o := .tup [.int (2 * s0 + s1), .int x, .int (nearR r (decide (-x = 1)))]) ne
        have he : Is (upd F2 e (.tup [.int (2 * s0 + s1), .int x, .int (nearR r (decide (-x = 1)))])) (.ref e) (Ent.go (2 * s0 + s1) x (nearR r (decide (-x = 1)))) := ⟨e, rfl, upd_same⟩
        refine ⟨two_le, fun u nu => ?_⟩
        exact q _ _ u (.ref e) (g3.new nu) upd_same (he.up (sm_up (g3.fh.free nu)))
/-! ### the machine over blocks, made -/
def sp_over_blocks : Sp := fun vs H Q _ => ∃ (F : Hp) (m : V) (M : Mach) (R : Nat), vs = [m] ∧ Same F H ∧ Is F m M ∧ MOk M R 2 ∧ R ≤ 2 ∧
  ∀ (F' H' : Hp) (u tb st : Addr) (rs : List Addr) (ess : List (List V)) (ys : List V), Gr mu0 F H F' H' → H u = none → F' u = some (.tup [.ref tb, .ref st]) → MaO H F' H' tb rs ess (overM M R) → Ow H F' H' st (.lst ys) → IsAll F' ys (stayM M R) → st ≠ tb → st ∉ rs → Q (.ref u) H'
theorem filter_one {p : Nat → Bool} {k : Nat} : [k].filter p = if p k = true then [k] else [] := by
  cases h : p k with
  | true => rw [List.filter_cons_of_pos h]; rfl
  | false => rw [List.filter_cons_of_neg (by rw [h]; decide)]; rfl
theorem range_snoc {β : Type} (f : Nat → β) (n : Nat) : (List.range (n + 1)).map f = (List.range n).map f ++ [f n] := by
  rw [List.range_succ, List.map_append]; rfl
theorem ok_over_blocks (t : Tx K mg) : FnOk P w K mg base CX0 6 t.a_over_blocks t.fd_over_blocks ["machine"] sp_over_blocks := by
  refine t.F_over_blocks.ok sc_over_blocks (fun vs H Q E h => ?_) (fun cdv A outer s H vs Q E hr h => ?_)
  · obtain ⟨F, m, M, R, rfl, _⟩ := h
    rfl
  · obtain ⟨F, m, M, R, rfl, sF, hm, hM, R2, q⟩ := h
    refine ⟨_, (pss_cons (ps_expr (pe_call (ok_must_blocks t) (hr.mono (by decide)) (by rfl) t.m_must_blocks t.F_must_blocks.kp t.b_must_blocks .nil pass0 (pa_cons (pv 0) pa_nil)))
      (pss_cons (ps_set (i := 1) sc_over_blocks.nd rfl (by first | exact Or.inl rfl | exact Or.inr rfl) (pe_lst pa_nil))
      (pss_cons (ps_set (i := 2) sc_over_blocks.nd rfl (by first | exact Or.inl rfl | exact Or.inr rfl) (pe_lst pa_nil))
      (pss_cons (ps_for PassesOwn.never rfl (pi_range1 (by rfl) t.n_range (pa_cons (pe_callB (id := "len") call_lenQ (by rfl) t.n_len (by decide +kernel) (pa_cons (pv 0) pa_nil)) pa_nil)) (pg_name (i := 3) sc_over_blocks.nd rfl (by first | exact Or.inl rfl | exact Or.inr rfl)) (pss_one (ps_for PassesOwn.never rfl (pi_list (pe_lst (pa_cons (pe_un un_neg pe_int) (pa_cons pe_int pa_nil)))) (pg_name (i := 4) sc_over_blocks.nd rfl (by first | exact Or.inl rfl | exact Or.inr rfl)) (pss_cons (ps_set (i := 5) sc_over_blocks.nd rfl (by first | exact Or.inl rfl | exact Or.inr rfl) (pe_lst pa_nil))
      (pss_cons (ps_for PassesOwn.never rfl (pi_range1 (by rfl) t.n_range (pa_cons (pe_glob (v := .int 4) (by rfl) t.m_BLOCK_SIGNS ⟨_, rfl⟩) pa_nil)) (pg_name (i := 6) sc_over_blocks.nd rfl (by first | exact Or.inl rfl | exact Or.inr rfl)) (pss_cons (ps_asg (pe_call (ok_entry_over t) (hr.mono (by decide)) (by rfl) t.m_entry_over t.F_entry_over.kp t.b_entry_over .nil pass0 (pa_cons (pv 0) (pa_cons (pv 3) (pa_cons (pv 4) (pa_cons (pv 6) pa_nil))))) (pg_tup rfl (pgs_cons (pg_name (i := 7) sc_over_blocks.nd rfl (by first | exact Or.inl rfl | exact Or.inr rfl)) (pgs_cons (pg_name (i := 8) sc_over_blocks.nd rfl (by first | exact Or.inl rfl | exact Or.inr rfl)) pgs_nil))))
      (pss_cons (ps_expr (pe_bm PySem.F.plainAttrs_list PySem.F.slot_list_append PySem.F.type_list_append mt_append (pv 5) (pa_cons (pv 7) pa_nil)))
      (pss_one (ps_if (pt_val (pv 8)) (pss_one (ps_expr (pe_bm PySem.F.plainAttrs_list PySem.F.slot_list_append PySem.F.type_list_append mt_append (pv 2) (pa_cons (pe_tup (pa_cons (pe_call (ok_near_row t) (hr.mono (by decide)) (by rfl) t.m_near_row t.F_near_row.kp t.b_near_row .nil pass0 (pa_cons (pv 3) (pa_cons (pv 4) pa_nil))) (pa_cons (pv 6) pa_nil))) pa_nil)))) pss_nil)))))
      (pss_one (ps_expr (pe_bm PySem.F.plainAttrs_list PySem.F.slot_list_append PySem.F.type_list_append mt_append (pv 1) (pa_cons (pv 5) pa_nil)))))))))
      (pss_one (ps_ret (pe_tup (pa_cons (pv 1) (pa_cons (pv 2) pa_nil))))))))), ?_⟩
    refine ⟨_, rfl, F, m, M, R, rfl, sF, hm, hM, R2, fun H1 g1 => ?_⟩
    refine ⟨nil_le, fun tb ntb => ?_⟩
    have wt := Ow.mk1 (o := .lst []) g1 ntb
    have x2 : MaO H F (upd H1 tb (.lst [])) tb [] [] [] := ⟨wt, List.nodup_nil, (fun z => nomatch z), rfl, fun i r es h _ => (by cases h), All2.nil⟩
    have g2 := g1.own (o := .lst []) ntb
    generalize upd H1 tb (.lst []) = H2 at g2 x2 ⊢
    refine ⟨nil_le, fun st nst => ?_⟩
    have ws := Ow.mk1 (o := .lst []) g2 nst
    have g3 := g2.own (o := .lst []) nst
    have x3 := x2.gr ((Gr.refl (mu := mu0) g2.fh).own (o := .lst []) nst) fun c z => z.elim
    have ost := x2.offn nst
    generalize upd H2 st (.lst []) = H3 at g3 x3 ws ⊢
    obtain ⟨ma, mr, rfl, hma, hmr⟩ := id hm
    have lm : mr.length = R := hmr.1.trans hM.len
    refine ⟨_, rfl, ma, _, rfl, .inl (SqL.of (g3.fh _ _ hma)), _, rfl, by omega, by omega, for_range (lo := 0) (n := ((mr.length : Int)).toNat) (fun i σ G => ∃ (F1 : Hp) (rs : List Addr) (ess : List (List V)) (ys : List V) (v3 v4 v5 v6 v7 v8 : Option V), σ = [some (.ref ma), some (.ref tb), some (.ref st), v3, v4, v5, v6, v7, v8] ∧ Gr mu0 F H F1 G ∧ MaO H F1 G tb rs ess ((List.range (2 * i)).map (ovRow M R)) ∧ Ow H F1 G st (.lst ys) ∧ IsAll F1 ys ((List.range (2 * i)).flatMap (stayRow M R)) ∧ st ∉ rs)
      ⟨F, [], [], [], none, none, none, none, none, none, rfl, g3, x3, ws, All2.nil, ost.2⟩ ?_ ?_⟩
    · rintro i σ G hi ⟨F1, rs, ess, ys, v3, v4, v5, v6, v7, v8, rfl, g, x, w, al, os⟩
      have hi : i < R := by omega
      refine ⟨_, rfl, two_le, fun l nl => ?_⟩
      have g4 := g.new (o := .lst [.int (-1), .int 1]) nl
      have k4 := (Gr.refl (mu := mu0) g.fh).new (o := .lst [.int (-1), .int 1]) nl
      have x4 := x.gr k4 fun c z => z.elim
      have w4 := w.call k4 fun z => z
      have al4 := al.up k4.ff
      have hl : (upd F1 l (.lst [.int (-1), .int 1])) l = some (.lst [.int (-1), .int 1]) := upd_same
      generalize upd F1 l (.lst [.int (-1), .int 1]) = FL at g4 x4 w4 al4 hl
      generalize upd G l (.lst [.int (-1), .int 1]) = G4 at g4 x4 w4 ⊢
      clear k4 g x w al
      refine ⟨l, rfl, ⟨_, SqL.of (g4.fh _ _ hl)⟩, for_list (K := K) (a := l) (xs := [.int (-1), .int 1]) (fun e σ G => ∃ (F1 : Hp) (rs : List Addr) (ess : List (List V)) (ys : List V) (v4 v5 v6 v7 v8 : Option V), σ = [some (.ref ma), some (.ref tb), some (.ref st), some (.int (0 + (i : Int))), v4, v5, v6, v7, v8] ∧ Gr mu0 F H F1 G ∧ Same FL F1 ∧ MaO H F1 G tb rs ess ((List.range (2 * i + e)).map (ovRow M R)) ∧ Ow H F1 G st (.lst ys) ∧ IsAll F1 ys ((List.range (2 * i + e)).flatMap (stayRow M R)) ∧ st ∉ rs)
        ⟨FL, rs, ess, ys, v4, v5, v6, v7, v8, rfl, g4, Same.refl FL, x4, w4, al4, os⟩ (fun e σ G _ p => SqL.of (p.choose_spec.choose_spec.choose_spec.choose_spec.choose_spec.choose_spec.choose_spec.choose_spec.choose_spec.2.1.fh _ _ (p.choose_spec.choose_spec.choose_spec.choose_spec.choose_spec.choose_spec.choose_spec.choose_spec.choose_spec.2.2.1 _ _ hl))) ?_ ?_⟩
      · rintro e y σ G he ⟨F1, rs, ess, ys, v4, v5, v6, v7, v8, rfl, g, sL, x, w, al, os⟩
        obtain ⟨side, rfl, hs, e2, es1⟩ : ∃ side : Int, y = .int side ∧ (side = -1 ∨ side = 1) ∧ e < 2 ∧ decide (side = 1) = decide ((2 * i + e) % 2 = 1) := by
          match e, he with
          | 0, he => cases he; exact ⟨-1, rfl, .inl rfl, by decide, by rw [decide_eq_false (show ¬ (2 * i + 0) % 2 = 1 by omega)]; rfl⟩
          | 1, he => cases he; exact ⟨1, rfl, .inr rfl, by decide, by rw [decide_eq_true (show (2 * i + 1) % 2 = 1 by omega)]; rfl⟩
        have eq2 : (2 * i + e) / 2 = i := by omega
        have eT : ∀ g : Nat, thr M R 2 [(g : Int) / 2, (g : Int) % 2] (0 + (i : Int)) (decide (side = 1)) = ovQ M R (2 * i + e) g := fun g => by
          unfold ovQ
          rw [es1, eq2, Int.zero_add]
        have eN : nearR (0 + (i : Int)) (decide (side = 1)) = ((2 * i + e : Nat) : Int) := by
          rw [es1]
          unfold nearR
          by_cases z : (2 * i + e) % 2 = 1
          · rw [if_pos (decide_eq_true z)]; omega
          · rw [if_neg (by rw [decide_eq_true_iff]; exact z)]; omega
        refine ⟨nil_le, fun r nr => ?_⟩
        have g5 := g.own (o := .lst []) nr
        have k5 := (Gr.refl (mu := mu0) g.fh).own (o := .lst []) nr
        have x5 := x.gr k5 fun c z => z.elim
        have w5 := w.call k5 fun z => z
        have wr5 : Ow H F1 (upd G r (.lst [])) r (.lst []) := Ow.mk1 g nr
        have orr := x.offn nr
        have rst : st ≠ r := w.ne nr
        generalize upd G r (.lst []) = G5 at g5 x5 w5 wr5 ⊢
        refine ⟨4, rfl, by decide, by decide, for_range (lo := 0) (n := 4) (fun k σ G => ∃ (F1 : Hp) (es ys : List V) (v6 v7 v8 : Option V), σ = [some (.ref ma), some (.ref tb), some (.ref st), some (.int (0 + (i : Int))), some (.int side), some (.ref r), v6, v7, v8] ∧ Gr mu0 F H F1 G ∧ Same FL F1 ∧ MaO H F1 G tb rs ess ((List.range (2 * i + e)).map (ovRow M R)) ∧ Ow H F1 G st (.lst ys) ∧ IsAll F1 ys ((List.range (2 * i + e)).flatMap (stayRow M R) ++ ((List.range k).filter fun g : Nat => isStay (ovQ M R (2 * i + e) g)).map fun g : Nat => (⟨((2 * i + e : Nat) : Int), (g : Int)⟩ : PI)) ∧ Ow H F1 G r (.lst es) ∧ IsAll F1 es ((List.range k).map fun g => ovX (ovQ M R (2 * i + e) g)))
          ⟨F1, [], ys, v6, v7, v8, rfl, g5, sL, x5, w5, by rw [show ((List.range 0).filter fun g : Nat => isStay (ovQ M R (2 * i + e) g)).map (fun g : Nat => (⟨((2 * i + e : Nat) : Int), (g : Int)⟩ : PI)) = [] from rfl, List.append_nil]; exact al, wr5, All2.nil⟩ ?_ ?_⟩
        · rintro k σ G hk ⟨F1, es, ys, v6, v7, v8, rfl, g, sL, x, w, al, wr, alr⟩
          have hm1 : Is F1 (.ref ma) M := hm.up g.ff
          refine ⟨_, rfl, _, rfl, _, rfl, _, rfl, F1, .ref ma, M, R, 0 + (i : Int), side, k, by rw [Int.zero_add (k : Int)]; rfl, g.fh, hm1, hM, by omega, by omega, hs, hk, fun F2 G2 u e' g2 hu he' => ?_⟩
          rw [eT] at hu he'
          have gg := g.trans g2
          have x2 := x.gr g2 fun c z => z.elim
          have w2 := w.call g2 fun z => z
          have wr2 := wr.call g2 fun z => z
          have al2 := al.up g2.ff
          have alr2 := alr.up g2.ff
          have sL2 : Same FL F2 := fun c o h => g2.ff _ _ (sL _ _ h)
          refine ⟨u, _, rfl, SqT.of (gg.fh _ _ hu), rfl, _, _, rfl, _, _, rfl, rfl, ?_⟩
          have les : es.length = k := by rw [alr.1, List.length_map, List.length_range]
          refine ⟨_, rfl, .inl ⟨rfl, _, SqL.of wr2.h⟩, _, rfl, r, _, _, rfl, rfl, wr2.h, lt_size (by omega), ?_⟩
          have g6 := gg.set (q := r) (o := .lst (es ++ [e'])) wr2.f (.inl wr2.n)
          have k6 : Gr (muP r) F2 G2 F2 (upd G2 r (.lst (es ++ [e']))) := (Gr.refl gg.fh).set wr2.f (.inr rfl)
          have x6 := x2.gr k6 (fun c z => by rw [show c = r from z]; exact orr)
          have w6 := w2.call k6 rst
          have wr6 : Ow H F2 (upd G2 r (.lst (es ++ [e']))) r (.lst (es ++ [e'])) := wr2.set
          have alr6 : IsAll F2 (es ++ [e']) ((List.range (k + 1)).map fun g => ovX (ovQ M R (2 * i + e) g)) := by
            rw [range_snoc]; exact alr2.app (All2.one he')
          generalize upd G2 r (.lst (es ++ [e'])) = G6 at g6 x6 w6 wr6 ⊢
          refine ⟨_, rfl, _, rfl, ?_⟩
          have efl : (List.range (k + 1)).filter (fun g : Nat => isStay (ovQ M R (2 * i + e) g)) = (List.range k).filter (fun g : Nat => isStay (ovQ M R (2 * i + e) g)) ++ if isStay (ovQ M R (2 * i + e) k) = true then [k] else [] := by
            rw [List.range_succ, List.filter_append]
            congr 1
            exact filter_one
          by_cases z : isStay (ovQ M R (2 * i + e) k) = true
          · refine ifT z ?_
            refine ⟨_, rfl, .inl ⟨rfl, _, SqL.of w6.h⟩, ?_⟩
            refine ⟨_, rfl, _, rfl, 0 + (i : Int), side, rfl, hs, _, rfl, two_le, fun p np => ?_⟩
            rw [eN]
            have g7 := g6.new (o := .tup [.int ((2 * i + e : Nat) : Int), .int (0 + (k : Int))]) np
            have k7 := (Gr.refl (mu := mu0) g6.fh).new (o := .tup [.int ((2 * i + e : Nat) : Int), .int (0 + (k : Int))]) np
            have x7 := x6.gr k7 fun c z => z.elim
            have w7 := w6.call k7 fun z => z
            have wr7 := wr6.call k7 fun z => z
            have hp : (upd F2 p (.tup [.int ((2 * i + e : Nat) : Int), .int (0 + (k : Int))])) p = some (.tup [.int ((2 * i + e : Nat) : Int), .int (0 + (k : Int))]) := upd_same
            have al7 := al2.up k7.ff
            have alr7 := alr6.up k7.ff
            have sL7 : Same FL (upd F2 p (.tup [.int ((2 * i + e : Nat) : Int), .int (0 + (k : Int))])) := fun c o h => k7.ff _ _ (sL2 _ _ h)
            generalize upd F2 p (.tup [.int ((2 * i + e : Nat) : Int), .int (0 + (k : Int))]) = F7 at g7 x7 w7 wr7 hp al7 alr7 sL7
            generalize upd G6 p (.tup [.int ((2 * i + e : Nat) : Int), .int (0 + (k : Int))]) = G7 at g7 x7 w7 wr7 ⊢
            have lys : ys.length ≤ 100 := by
              rw [al.1, List.length_append, List.length_map]
              have h1 : ((List.range k).filter fun g : Nat => isStay (ovQ M R (2 * i + e) g)).length ≤ k := Nat.le_trans (List.length_filter_le _ _) (by rw [List.length_range]; exact Nat.le_refl k)
              have h2 := stay_len M R (2 * i + e)
              omega
            refine ⟨st, _, _, rfl, rfl, w7.h, lt_size (by omega), ?_⟩
            have k8 : Gr (muP st) F7 G7 F7 (upd G7 st (.lst (ys ++ [.ref p]))) := (Gr.refl g7.fh).set w7.f (.inr rfl)
            refine ⟨F7, es ++ [e'], ys ++ [.ref p], _, _, _, rfl, g7.set w7.f (.inl w7.n), sL7, x7.gr k8 (fun c z => by rw [show c = st from z]; exact ⟨ost.1, os⟩), w7.set, ?_, wr7.call k8 (fun z => rst z.symm), alr7⟩
            rw [efl, if_pos z, List.map_append, ← List.append_assoc]
            exact al7.app (All2.one ⟨p, _, _, rfl, hp, rfl, by show V.int (0 + (k : Int)) = V.int (k : Int); rw [Int.zero_add]⟩)
          · refine ifF (Bool.eq_false_iff.mpr z) ?_
            refine ⟨F2, es ++ [e'], ys, _, _, _, rfl, g6, sL2, x6, w6, ?_, wr6, alr6⟩
            rw [efl, if_neg z, List.append_nil]
            exact al2
        · rintro σ G ⟨F1, es, ys, v6, v7, v8, rfl, g, sL, x, w, al, wr, alr⟩
          have eys : (List.range (2 * i + e)).flatMap (stayRow M R) ++ ((List.range 4).filter fun g : Nat => isStay (ovQ M R (2 * i + e) g)).map (fun g : Nat => (⟨((2 * i + e : Nat) : Int), (g : Int)⟩ : PI)) = (List.range (2 * i + (e + 1))).flatMap (stayRow M R) := by
            rw [show 2 * i + (e + 1) = 2 * i + e + 1 by omega, List.range_succ (n := 2 * i + e), List.flatMap_append]
            congr 1
            show _ = stayRow M R (2 * i + e) ++ []
            rw [List.append_nil]; rfl
          rw [eys] at al
          refine ⟨_, rfl, .inl ⟨rfl, _, SqL.of x.ow.h⟩, _, rfl, tb, _, _, rfl, rfl, x.ow.h, by rw [List.length_map, x.len, x.dat.1, List.length_map, List.length_range]; exact lt_size (by omega), ?_⟩
          have e1 : rs.map V.ref ++ [V.ref r] = (rs ++ [r]).map V.ref := by rw [List.map_append]; rfl
          rw [e1]
          have xa := x.add wr orr alr
          have k8 : Gr (muP tb) F1 G F1 (upd G tb (.lst ((rs ++ [r]).map V.ref))) := (Gr.refl g.fh).set x.ow.f (.inr rfl)
          refine ⟨F1, rs ++ [r], ess ++ [es], ys, _, _, _, _, _, rfl, g.set x.ow.f (.inl x.ow.n), sL, ?_, w.call k8 ost.1, al, fun z => ?_⟩
          · have e2 : (List.range (2 * i + (e + 1))).map (ovRow M R) = (List.range (2 * i + e)).map (ovRow M R) ++ [(List.range 4).map fun g => ovX (ovQ M R (2 * i + e) g)] := range_snoc (ovRow M R) (2 * i + e)
            rw [e2]; exact xa
          · rcases List.mem_append.mp z with z | z
            · exact os z
            · exact rst (List.mem_singleton.mp z)
      · rintro σ G ⟨F1, rs, ess, ys, v4, v5, v6, v7, v8, rfl, g, sL, x, w, al, os⟩
        exact ⟨F1, rs, ess, ys, _, _, _, _, _, _, rfl, g, x, w, al, os⟩
    · rintro σ G ⟨F1, rs, ess, ys, v3, v4, v5, v6, v7, v8, rfl, g, x, w, al, os⟩
      rw [show ((mr.length : Int)).toNat = R by omega] at x al
      refine ⟨_, rfl, _, rfl, two_le, fun u nu => ?_⟩
      have k7 := (Gr.refl (mu := mu0) g.fh).new (o := .tup [.ref tb, .ref st]) nu
      exact q _ _ u tb st rs ess ys (g.new nu) (g.th _ nu) upd_same (x.gr k7 fun c z => z.elim) (w.call k7 fun z => z) (al.up k7.ff) ost.1 os
/-! ### strips, sign by sign -/
def sp_L_signs : Sp := fun vs H Q _ => ∃ (F : Hp) (v : V) (l : List PI), vs = [v] ∧ Same F H ∧ Is F v l ∧ l.length ≤ 10000 ∧
  ∀ (F' H' : Hp) (a : Addr) (xs : List V), Gr mu0 F H F' H' → Ow H F' H' a (.lst xs) → IsAll F' xs (signs2 l) → Q (.ref a) H'
theorem sign2_len (p : PI) : (sign2 p).length ≤ 2 := by
  unfold sign2
  rw [List.length_append]
  have h1 : (if p.b / 2 = 1 then [(⟨2 * p.a, 1⟩ : PI)] else []).length ≤ 1 := by split <;> simp
  have h2 : (if p.b % 2 = 1 then [(⟨2 * p.a + 1, 1⟩ : PI)] else []).length ≤ 1 := by split <;> simp
  omega
theorem signs2_len : ∀ l : List PI, (signs2 l).length ≤ 2 * l.length
  | [] => Nat.le_refl 0
  | p :: l => by
    show (List.flatMap sign2 (p :: l)).length ≤ _
    rw [List.flatMap_cons, List.length_append, List.length_cons]
    have h1 := sign2_len p
    have h2 : (l.flatMap sign2).length ≤ 2 * l.length := signs2_len l
    omega
theorem ok_L_signs (t : Tx K mg) : FnOk P w K mg base CX0 1 t.a_L_signs t.fd_L_signs ["_law_strip"] sp_L_signs := by
  refine t.F_L_signs.ok sc_L_signs (fun vs H Q E h => ?_) (fun cdv A outer s H vs Q E hr h => ?_)
  · obtain ⟨F, v, l, rfl, _⟩ := h
    rfl
  · obtain ⟨F, v, l, rfl, sF, hv, hl, q⟩ := h
    refine ⟨_, (pss_cons (ps_set (i := 1) sc_L_signs.nd rfl (by first | exact Or.inl rfl | exact Or.inr rfl) (pe_lst pa_nil))
      (pss_cons (ps_for PassesOwn.never rfl (pi_list (pv 0)) (pg_tup rfl (pgs_cons (pg_name (i := 2) sc_L_signs.nd rfl (by first | exact Or.inl rfl | exact Or.inr rfl)) (pgs_cons (pg_name (i := 3) sc_L_signs.nd rfl (by first | exact Or.inl rfl | exact Or.inr rfl)) pgs_nil))) (pss_cons (ps_if (pt_cmpR op_eq (pe_op op_fdiv (pv 3) pe_int) pe_int (nomark _)) (pss_one (ps_expr (pe_bm PySem.F.plainAttrs_list PySem.F.slot_list_append PySem.F.type_list_append mt_append (pv 1) (pa_cons (pe_tup (pa_cons (pe_op op_mul pe_int (pv 2)) (pa_cons pe_int pa_nil))) pa_nil)))) pss_nil)
      (pss_one (ps_if (pt_cmpR op_eq (pe_op op_mod (pv 3) pe_int) pe_int (nomark _)) (pss_one (ps_expr (pe_bm PySem.F.plainAttrs_list PySem.F.slot_list_append PySem.F.type_list_append mt_append (pv 1) (pa_cons (pe_tup (pa_cons (pe_op op_add (pe_op op_mul pe_int (pv 2)) pe_int) (pa_cons pe_int pa_nil))) pa_nil)))) pss_nil))))
      (pss_one (ps_ret (pv 1))))), ?_⟩
    have g0 : Gr mu0 F H F H := Gr.refl sF
    obtain ⟨b, vs, rfl, hb, hvs⟩ := hv
    have lv : vs.length = l.length := hvs.1
    refine ⟨nil_le, fun D nD => ?_⟩
    have g1 := g0.own (o := .lst []) nD
    have w1 := Ow.mk1 (o := .lst []) g0 nD
    generalize upd H D (.lst []) = H1 at g1 w1 ⊢
    refine ⟨_, rfl, b, rfl, ⟨_, SqL.of (g1.fh _ _ hb)⟩, for_list (K := K) (a := b) (xs := vs) (fun i σ G => ∃ (F1 : Hp) (xs : List V) (v2 v3 : Option V), σ = [some (.ref b), some (.ref D), v2, v3] ∧ Gr mu0 F H F1 G ∧ Ow H F1 G D (.lst xs) ∧ IsAll F1 xs (signs2 (l.take i))) ⟨F, [], none, none, rfl, g1, w1, All2.nil⟩ (fun i σ G _ ⟨F1, _, _, _, _, g, _⟩ => SqL.of (g.fh _ _ (g.ff _ _ hb))) ?_ ?_⟩
    · rintro i y σ G hi ⟨F1, xs, v2, v3, rfl, g, w, al⟩
      obtain ⟨c, hc, t, y1, y2, rfl, ht, d1, d2⟩ := hvs.get' hi
      have d1 : y1 = .int c.a := d1
      have d2 : y2 = .int c.b := d2
      subst d1
      subst d2
      have il := (List.getElem?_eq_some_iff.mp hc).1
      have lxs : xs.length ≤ 20000 := by
        have := signs2_len (l.take i)
        rw [List.length_take] at this
        rw [al.1]; omega
      have es : signs2 (l.take (i + 1)) = signs2 (l.take i) ++ sign2 c := by
        rw [List.take_add_one, hc]
        unfold signs2
        rw [List.flatMap_append]
        congr 1
        show sign2 c ++ [] = _
        rw [List.append_nil]
      refine ⟨t, _, rfl, SqT.of (g.fh _ _ (g.ff _ _ ht)), rfl, _, _, rfl, _, _, rfl, rfl, ?_⟩
      refine ⟨_, rfl, _, _, rfl, rfl, ⟨by decide, by decide⟩, rfl, _, rfl, ?_⟩
      rw [show decide (V.int (c.b / 2) = V.int 1) = decide (c.b / 2 = 1) from int_eq2]
      refine ite2 (fun k1 => ?A) (fun k1 => ?B)
      case' A =>
        have k1 := of_decide_eq_true k1
        refine ⟨_, rfl, .inl ⟨rfl, _, SqL.of w.h⟩, ?_⟩
        refine ⟨_, rfl, _, _, rfl, rfl, .inl ⟨by decide, by decide⟩, two_le, fun p np => ?_⟩
        dsimp only
        have g2 := g.new (o := .tup [.int (2 * c.a), .int 1]) np
        have w2 := w.new (u := .tup [.int (2 * c.a), .int 1]) np
        have hp : (upd F1 p (.tup [.int (2 * c.a), .int 1])) p = some (.tup [.int (2 * c.a), .int 1]) := upd_same
        have al2 := al.up (sm_up (g.fh.free np) : Same F1 (upd F1 p (.tup [.int (2 * c.a), .int 1])))
        generalize upd F1 p (.tup [.int (2 * c.a), .int 1]) = F2 at g2 w2 hp al2
        generalize upd G p (.tup [.int (2 * c.a), .int 1]) = G2 at g2 w2 ⊢
        refine ⟨D, _, _, rfl, rfl, w2.h, lt_size (by omega), ?_⟩
        have g3 := g2.set (o := .lst (xs ++ [.ref p])) w2.f (.inl w2.n)
        have w3 : Ow H F2 (upd G2 D (.lst (xs ++ [.ref p]))) D (.lst (xs ++ [.ref p])) := w2.set
        have al3 : IsAll F2 (xs ++ [.ref p]) (signs2 (l.take i) ++ (if c.b / 2 = 1 then [(⟨2 * c.a, 1⟩ : PI)] else [])) := by
          rw [if_pos k1]
          exact al2.app (All2.one ⟨p, _, _, rfl, hp, rfl, rfl⟩)
        have lx3 : (xs ++ [V.ref p]).length ≤ 20001 := by rw [List.length_append]; show _ + 1 ≤ _; omega
        generalize upd G2 D (.lst (xs ++ [.ref p])) = G3 at g3 w3 ⊢
        generalize xs ++ [V.ref p] = xs3 at w3 al3 lx3
      case' B =>
        have k1 : ¬ c.b / 2 = 1 := fun z => k1 (decide_eq_true z)
        obtain ⟨F2, G3, xs3, e0, g3, w3, al3, lx3⟩ : ∃ (F2 G3 : Hp) (xs3 : List V), G = G3 ∧ Gr mu0 F H F2 G3 ∧ Ow H F2 G3 D (.lst xs3) ∧ IsAll F2 xs3 (signs2 (l.take i) ++ (if c.b / 2 = 1 then [(⟨2 * c.a, 1⟩ : PI)] else [])) ∧ xs3.length ≤ 20001 :=
          ⟨F1, G, xs, rfl, g, w, by rw [if_neg k1, List.append_nil]; exact al, by omega⟩
        rw [e0]
      all_goals
        refine ⟨_, rfl, _, _, rfl, rfl, (by show (0 : Int) < 2; decide), rfl, _, rfl, ?_⟩
        rw [show decide (V.int (c.b % 2) = V.int 1) = decide (c.b % 2 = 1) from int_eq2]
        by_cases k2 : c.b % 2 = 1
        · refine ifT (decide_eq_true k2) ?_
          refine ⟨_, rfl, .inl ⟨rfl, _, SqL.of w3.h⟩, ?_⟩
          refine ⟨_, rfl, _, _, rfl, rfl, .inl ⟨by decide, by decide⟩, _, _, rfl, rfl, two_le, fun p np => ?_⟩
          dsimp only
          have g4 := g3.new (o := .tup [.int (2 * c.a + 1), .int 1]) np
          have w4 := w3.new (u := .tup [.int (2 * c.a + 1), .int 1]) np
          have hp : (upd F2 p (.tup [.int (2 * c.a + 1), .int 1])) p = some (.tup [.int (2 * c.a + 1), .int 1]) := upd_same
          have al4 := al3.up (sm_up (g3.fh.free np) : Same F2 (upd F2 p (.tup [.int (2 * c.a + 1), .int 1])))
          generalize upd F2 p (.tup [.int (2 * c.a + 1), .int 1]) = F4 at g4 w4 hp al4
          generalize upd G3 p (.tup [.int (2 * c.a + 1), .int 1]) = G4 at g4 w4 ⊢
          refine ⟨D, _, _, rfl, rfl, w4.h, lt_size (by omega), ?_⟩
          refine ⟨F4, xs3 ++ [.ref p], _, _, rfl, g4.set w4.f (.inl w4.n), w4.set, ?_⟩
          rw [es]
          unfold sign2
          rw [← List.append_assoc, if_pos k2]
          exact al4.app (All2.one ⟨p, _, _, rfl, hp, rfl, rfl⟩)
        · refine ifF (decide_eq_false k2) ?_
          refine ⟨F2, xs3, _, _, rfl, g3, w3, ?_⟩
          rw [es]
          unfold sign2
          rw [← List.append_assoc, if_neg k2, List.append_nil]
          exact al3
    · rintro σ G ⟨F1, xs, v2, v3, rfl, g, w, al⟩
      rw [lv, List.take_length] at al
      exact ⟨_, rfl, q F1 G D xs g w al⟩
/-! ### small machines drawn -/
def sp_L_small : Sp := fun vs H Q _ => ∃ (F : Hp) (p : Addr) (a b : Int), vs = [.ref p] ∧ Same F H ∧ F p = none ∧ H p = some (PurseO a b) ∧ 0 ≤ a ∧ 0 ≤ b ∧
  ∀ (F' H' : Hp) (v : V) (M : Mach) (R : Nat) (a' b' : Int), Gr (muP p) F H F' H' → H' p = some (PurseO a' b') → 0 ≤ a' → 0 ≤ b' → MOk M R 2 → R ≤ 2 → Is F' v M → Q v H'
theorem ok_L_small (t : Tx K mg) : FnOk P w K mg base CX0 2 t.a_L_small t.fd_L_small ["_law_purse_here"] sp_L_small := by
  refine t.F_L_small.ok sc_L_small (fun vs H Q E h => ?_) (fun cdv A outer s H vs Q E hr h => ?_)
  · obtain ⟨F, p, a, b, rfl, _⟩ := h
    rfl
  · obtain ⟨F, p, a, b, rfl, sF, fp, hp, ha, hb, q⟩ := h
    refine ⟨_, (pss_cons (ps_set (i := 1) sc_L_small.nd rfl (by first | exact Or.inl rfl | exact Or.inr rfl) (pe_op op_add pe_int (pe_call (ok_L_draw t) (hr.mono (by decide)) (by rfl) t.m_L_draw t.F_L_draw.kp t.b_L_draw .nil pass0 (pa_cons (pv 0) (pa_cons pe_int pa_nil)))))
      (pss_cons (ps_set (i := 2) sc_L_small.nd rfl (by first | exact Or.inl rfl | exact Or.inr rfl) (pe_lst pa_nil))
      (pss_cons (ps_set (i := 3) sc_L_small.nd rfl (by first | exact Or.inl rfl | exact Or.inr rfl) (pe_ix ix_list (pe_lst (pa_cons pe_int (pa_cons pe_int (pa_cons pe_int (pa_cons pe_int pa_nil))))) (pe_call (ok_L_draw t) (hr.mono (by decide)) (by rfl) t.m_L_draw t.F_L_draw.kp t.b_L_draw .nil pass0 (pa_cons (pv 0) (pa_cons pe_int pa_nil))) (fun _ _ => rfl)))
      (pss_cons (ps_for PassesOwn.never rfl (pi_range1 (by rfl) t.n_range (pa_cons (pv 1) pa_nil)) (pg_name (i := 4) sc_L_small.nd rfl (by first | exact Or.inl rfl | exact Or.inr rfl)) (pss_cons (ps_set (i := 5) sc_L_small.nd rfl (by first | exact Or.inl rfl | exact Or.inr rfl) (pe_lst pa_nil))
      (pss_cons (ps_for PassesOwn.never rfl (pi_range1 (by rfl) t.n_range (pa_cons pe_int pa_nil)) (pg_name (i := 6) sc_L_small.nd rfl (by first | exact Or.inl rfl | exact Or.inr rfl)) (pss_cons (ps_set (i := 7) sc_L_small.nd rfl (by first | exact Or.inl rfl | exact Or.inr rfl) (pe_tup (pa_cons (pe_call (ok_L_draw t) (hr.mono (by decide)) (by rfl) t.m_L_draw t.F_L_draw.kp t.b_L_draw .nil pass0 (pa_cons (pv 0) (pa_cons pe_int pa_nil))) (pa_cons (pe_op op_sub (pe_op op_mul pe_int (pe_call (ok_L_draw t) (hr.mono (by decide)) (by rfl) t.m_L_draw t.F_L_draw.kp t.b_L_draw .nil pass0 (pa_cons (pv 0) (pa_cons pe_int pa_nil)))) pe_int) (pa_cons (pe_call (ok_L_draw t) (hr.mono (by decide)) (by rfl) t.m_L_draw t.F_L_draw.kp t.b_L_draw .nil pass0 (pa_cons (pv 0) (pa_cons (pv 1) pa_nil))) pa_nil)))))
      (pss_cons (ps_if (pt_cmpR op_eq (pe_call (ok_L_draw t) (hr.mono (by decide)) (by rfl) t.m_L_draw t.F_L_draw.kp t.b_L_draw .nil pass0 (pa_cons (pv 0) (pa_cons (pv 3) pa_nil))) pe_int (nomark _)) (pss_one (ps_set (i := 7) sc_L_small.nd rfl (by first | exact Or.inl rfl | exact Or.inr rfl) (pe_tup pa_nil))) pss_nil)
      (pss_one (ps_expr (pe_bm PySem.F.plainAttrs_list PySem.F.slot_list_append PySem.F.type_list_append mt_append (pv 5) (pa_cons (pv 7) pa_nil)))))))
      (pss_one (ps_expr (pe_bm PySem.F.plainAttrs_list PySem.F.slot_list_append PySem.F.type_list_append mt_append (pv 2) (pa_cons (pv 5) pa_nil)))))))
      (pss_one (ps_ret (pv 2))))))), ?_⟩
    have gz0 : Gr (muP p) F H F H := Gr.refl sF
    refine ⟨_, rfl, p, a, b, 2, rfl, hp, ha, hb, by decide, by decide, fun d1 a1 b1 d10 d11 ha1 hb1 => ⟨_, _, rfl, rfl, ?_⟩⟩
    have g0 := gz0.set (o := PurseO a1 b1) fp (.inr rfl)
    have hpz : (upd H p (PurseO a1 b1)) p = some (PurseO a1 b1) := upd_same
    generalize upd H p (PurseO a1 b1) = HZ at g0 hpz ⊢
    have eR : ((1 + d1).toNat : Int) = 1 + d1 := Int.toNat_of_nonneg (by omega)
    generalize hR : (1 + d1).toNat = R at eR
    dsimp only
    rw [← eR]
    have R2 : R ≤ 2 := by omega
    have R1 : 1 ≤ R := by omega
    refine ⟨nil_le, fun D nD => ?_⟩
    have w0 : Ow H F (upd HZ D (.lst [])) D (.lst []) := Ow.mk1 g0 nD
    have g1 := g0.own (o := .lst []) nD
    have hp1 := ln (u := .lst []) nD hpz
    have pD0 : D ≠ p := (ne_of_none hpz nD).symm
    refine ⟨le_size (n := 4) (by decide), fun L nL => ?_⟩
    have g2 := g1.own (o := .lst [.int 2, .int 5, .int 12, .int 40]) nL
    have hp2 := ln (u := .lst [.int 2, .int 5, .int 12, .int 40]) nL hp1
    have w2 := w0.own (u := .lst [.int 2, .int 5, .int 12, .int 40]) nL
    have hL2 : (upd (upd HZ D (.lst [])) L (.lst [.int 2, .int 5, .int 12, .int 40])) L = some (.lst [.int 2, .int 5, .int 12, .int 40]) := upd_same
    have pL : L ≠ p := (ne_of_none hp1 nL).symm
    generalize upd (upd HZ D (.lst [])) L (.lst [.int 2, .int 5, .int 12, .int 40]) = H2 at g2 hp2 w2 hL2 ⊢
    refine ⟨_, rfl, p, a1, b1, 4, rfl, hp2, ha1, hb1, by decide, by decide, fun d3 a3 b3 d30 d31 ha3 hb3 => ?_⟩
    obtain ⟨g4, k4⟩ := g2.drw (a := a3) (b := b3) fp hp
    have w4 := w2.call k4 pD0
    have hL4 : (upd H2 p (PurseO a3 b3)) L = some (.lst [.int 2, .int 5, .int 12, .int 40]) := (upd_ne pL).trans hL2
    have hp4 : (upd H2 p (PurseO a3 b3)) p = some (PurseO a3 b3) := upd_same
    generalize upd H2 p (PurseO a3 b3) = H3 at g4 k4 w4 hL4 hp4 ⊢
    obtain ⟨e0, he0, e00, e01⟩ : ∃ e0 : Int, atI [V.int 2, V.int 5, V.int 12, V.int 40] d3 = some (.int e0) ∧ 0 < e0 ∧ e0 ≤ 40 := by
      rcases (by omega : d3 = 0 ∨ d3 = 1 ∨ d3 = 2 ∨ d3 = 3) with rfl | rfl | rfl | rfl
      · exact ⟨2, rfl, by decide, by decide⟩
      · exact ⟨5, rfl, by decide, by decide⟩
      · exact ⟨12, rfl, by decide, by decide⟩
      · exact ⟨40, rfl, by decide, by decide⟩
    refine ⟨L, _, _, _, rfl, rfl, SqL.of hL4, he0, ?_⟩
    have x0 : MaO H F H3 D [] [] [] := ⟨w4, List.nodup_nil, (fun z => nomatch z), rfl, fun i r es h _ => (by cases h), All2.nil⟩
    refine ⟨_, rfl, (R : Int), rfl, by omega, by omega, for_range (lo := 0) (n := ((R : Int)).toNat) (fun i σ G => ∃ (F1 : Hp) (rs : List Addr) (ess : List (List V)) (M : Mach) (a b : Int) (v5 v6 v7 v8 : Option V), σ = [some (.ref p), some (.int R), some (.ref D), some (.int e0), v5, v6, v7, v8] ∧
      Gr (muP p) F H F1 G ∧ G p = some (PurseO a b) ∧ 0 ≤ a ∧ 0 ≤ b ∧ MaO H F1 G D rs ess M ∧ M.length = i ∧ ∀ row ∈ M, row.length = 2 ∧ ∀ e ∈ row, EOk R 2 e) ⟨F, [], [], [], a3, b3, none, none, none, none, rfl, g4, hp4, ha3, hb3, x0, rfl, fun row z => nomatch z⟩ ?_ ?_⟩
    · rintro i σ G hi ⟨F1, rs, ess, M, a, b, v5, v6, v7, v8, rfl, g, hpG, ha, hb, x, hl, hM⟩
      -- row = []
      refine ⟨nil_le, fun r nr => ?_⟩
      have gr := g.own (o := .lst []) nr
      have wr : Ow H F1 (upd G r (.lst [])) r (.lst []) := Ow.mk1 g nr
      have xr := x.gr ((Gr.refl (mu := mu0) g.fh).own (o := .lst []) nr) fun c z => z.elim
      have offr := x.offn nr
      have hpr : (upd G r (.lst [])) p = some (PurseO a b) := by rw [upd_ne (ne_of_none hpG nr)]; exact hpG
      refine ⟨2, rfl, by decide, by decide, for_range (lo := 0) (n := 2) (fun j σ G => ∃ (F1 : Hp) (es : List V) (row : List Ent) (a b : Int) (v7 v8 : Option V), σ = [some (.ref p), some (.int R), some (.ref D), some (.int e0), some (.int (0 + i)), some (.ref r), v7, v8] ∧
        Gr (muP p) F H F1 G ∧ G p = some (PurseO a b) ∧ 0 ≤ a ∧ 0 ≤ b ∧ MaO H F1 G D rs ess M ∧ Ow H F1 G r (.lst es) ∧ IsAll F1 es row ∧ row.length = j ∧ ∀ e ∈ row, EOk R 2 e) ⟨F1, [], [], a, b, v7, v8, rfl, gr, hpr, ha, hb, xr, wr, All2.nil, rfl, fun e z => nomatch z⟩ ?_ ?_⟩
      · rintro j σ G hj ⟨F1, es, row, a, b, v7, v8, rfl, g, hpG, ha, hb, x, w, al, hl, hrow⟩
        have wp : r ≠ p := fun z => by rw [z] at w; rw [w.n] at hp; cases hp
        have wD : r ≠ D := offr.1
        -- the entry
        refine ⟨_, rfl, p, a, b, 2, rfl, hpG, ha, hb, by decide, by decide, fun e1 a1 b1 e10 e11 ha1 hb1 => ?_⟩
        obtain ⟨g1, k1⟩ := g.drw (a := a1) (b := b1) fp hp
        refine ⟨_, rfl, p, a1, b1, 2, rfl, upd_same, ha1, hb1, by decide, by decide, fun e2 a2 b2 e20 e21 ha2 hb2 => ⟨_, _, rfl, rfl, .inl ⟨by decide, by decide⟩, _, _, rfl, rfl, ?_⟩⟩
        obtain ⟨g2, k2⟩ := g1.drw (a := a2) (b := b2) fp hp
        refine ⟨_, rfl, _, rfl, p, a2, b2, (R : Int), rfl, upd_same, ha2, hb2, by omega, by omega, fun e3 a3 b3 e30 e31 ha3 hb3 => ⟨three_le, fun q0 nq => ?_⟩⟩
        obtain ⟨g3, k3⟩ := g2.drw (a := a3) (b := b3) fp hp
        have k := (k1.trans k2).trans k3
        have x3 := x.gr k (x.off hp)
        have w3 := w.call k wp
        have hp3 : (upd (upd (upd G p (PurseO a1 b1)) p (PurseO a2 b2)) p (PurseO a3 b3)) p = some (PurseO a3 b3) := upd_same
        generalize upd (upd (upd G p (PurseO a1 b1)) p (PurseO a2 b2)) p (PurseO a3 b3) = G3 at g3 k x3 w3 hp3 nq
        have g4 := g3.new (o := .tup [.int e1, .int (2 * e2 - 1), .int e3]) nq
        have k4 := (Gr.refl (mu := mu0) g3.fh).new (o := .tup [.int e1, .int (2 * e2 - 1), .int e3]) nq
        have x4 := x3.gr k4 fun c z => z.elim
        have w4 := w3.call k4 fun z => z
        have hp4 := k4.fr _ _ hp3 fun z => z
        have ee : Is (upd F1 q0 (.tup [.int e1, .int (2 * e2 - 1), .int e3])) (.ref q0) (Ent.go e1 (2 * e2 - 1) e3) := ⟨q0, rfl, upd_same⟩
        have eo : EOk R 2 (Ent.go e1 (2 * e2 - 1) e3) := ⟨fun p w r z => by cases z; exact ⟨⟨e10, e11⟩, by omega, e30, e31⟩⟩
        have al4 := al.up k4.ff
        generalize upd F1 q0 (.tup [.int e1, .int (2 * e2 - 1), .int e3]) = F4 at g4 k4 x4 w4 ee al4
        generalize upd G3 q0 (.tup [.int e1, .int (2 * e2 - 1), .int e3]) = G4 at g4 k4 x4 w4 hp4
        -- what is the same in both ways: the entry comes in
        have fin : ∀ (F5 G5 : Hp) (q5 : Addr) (e5 : Ent) (a5 b5 : Int), Gr (muP p) F H F5 G5 → G5 p = some (PurseO a5 b5) → 0 ≤ a5 → 0 ≤ b5 → MaO H F5 G5 D rs ess M → Ow H F5 G5 r (.lst es) → IsAll F5 es row → Is F5 (.ref q5) e5 → EOk R 2 e5 →
            ∃ (F1 : Hp) (es1 : List V) (row : List Ent) (a b : Int) (v7 v8 : Option V), [some (.ref p), some (.int R), some (.ref D), some (.int e0), some (.int (0 + i)), some (.ref r), some (.int (0 + j)), some (.ref q5)] = [some (.ref p), some (.int R), some (.ref D), some (.int e0), some (.int (0 + i)), some (.ref r), v7, v8] ∧
              Gr (muP p) F H F1 (upd G5 r (.lst (es ++ [.ref q5]))) ∧ (upd G5 r (.lst (es ++ [.ref q5]))) p = some (PurseO a b) ∧ 0 ≤ a ∧ 0 ≤ b ∧ MaO H F1 (upd G5 r (.lst (es ++ [.ref q5]))) D rs ess M ∧ Ow H F1 (upd G5 r (.lst (es ++ [.ref q5]))) r (.lst es1) ∧ IsAll F1 es1 row ∧ row.length = j + 1 ∧ ∀ e ∈ row, EOk R 2 e := by
          intro F5 G5 q5 e5 a5 b5 g5 hp5 ha5 hb5 x5 w5 al5 ie5 eo5
          refine ⟨F5, es ++ [.ref q5], row ++ [e5], a5, b5, _, _, rfl, g5.set w5.f (.inl w5.n), by rw [upd_ne (Ne.symm wp)]; exact hp5, ha5, hb5, x5.gr (mu := fun c => c = r) ((Gr.refl g5.fh).set w5.f (.inr rfl)) (fun c z => by rw [show c = r from z]; exact offr), w5.set, al5.app (All2.one ie5), by rw [List.length_append, hl]; rfl, fun e z => ?_⟩
          rcases List.mem_append.mp z with z | z
          · exact hrow e z
          · rw [List.mem_singleton.mp z]; exact eo5
        have ll : ∀ G5 F5 : Hp, IsAll F5 es row → es.length < sizeLine := fun _ _ z => by rw [z.1, hl]; exact lt_size (by omega)
        refine ⟨_, rfl, _, rfl, p, a3, b3, e0, rfl, hp4, ha3, hb3, by omega, by omega, fun e4 a4 b4 e40 e41 ha4 hb4 => ⟨rfl, _, rfl, ?_⟩⟩
        obtain ⟨g5, k5⟩ := g4.drw (a := a4) (b := b4) fp hp
        have x5 := x4.gr k5 (x4.off hp)
        have w5 := w4.call k5 wp
        have al5 := al4.up k5.ff
        have hp5 : (upd G4 p (PurseO a4 b4)) p = some (PurseO a4 b4) := upd_same
        generalize upd G4 p (PurseO a4 b4) = G5 at g5 k5 x5 w5 hp5
        refine ite2 (fun c => ?_) (fun c => ?_)
        · refine ⟨nil_le, fun q2 nq2 => ?_⟩
          have g6 := g5.new (o := .tup []) nq2
          have k6 := (Gr.refl (mu := mu0) g5.fh).new (o := .tup []) nq2
          have x6 := x5.gr k6 fun c z => z.elim
          have w6 := w5.call k6 fun z => z
          refine ⟨_, rfl, .inl ⟨rfl, _, SqL.of w6.h⟩, _, rfl, r, _, _, rfl, rfl, w6.h, ll G5 _ al5, ?_⟩
          exact fin _ _ q2 .emp a4 b4 g6 (k6.fr _ _ hp5 fun z => z) ha4 hb4 x6 w6 (al5.up k6.ff) ⟨q2, rfl, upd_same⟩ ⟨fun p w r z => by cases z⟩
        · refine ⟨_, rfl, .inl ⟨rfl, _, SqL.of w5.h⟩, _, rfl, r, _, _, rfl, rfl, w5.h, ll G5 _ al5, ?_⟩
          exact fin _ _ q0 _ a4 b4 g5 hp5 ha4 hb4 x5 w5 al5 (ee.up k5.ff) eo
      · rintro σ G ⟨F1, es, row, a, b, v7, v8, rfl, g, hpG, ha, hb, x, w, al, hl2, hrow⟩
        have hl2 : row.length = 2 := hl2
        refine ⟨_, rfl, .inl ⟨rfl, _, SqL.of x.ow.h⟩, _, rfl, D, _, _, rfl, rfl, x.ow.h, by rw [List.length_map, x.len, x.dat.1, hl]; exact lt_size (by omega), ?_⟩
        have e1 : rs.map V.ref ++ [V.ref r] = (rs ++ [r]).map V.ref := by rw [List.map_append]; rfl
        rw [e1]
        have pD : p ≠ D := fun z => by rw [z] at hp; rw [x.ow.n] at hp; cases hp
        refine ⟨F1, rs ++ [r], ess ++ [es], M ++ [row], a, b, _, _, _, _, rfl, g.set x.ow.f (.inl x.ow.n), by rw [upd_ne pD]; exact hpG, ha, hb, x.add w offr al, by rw [List.length_append, hl]; rfl, fun row' z => ?_⟩
        rcases List.mem_append.mp z with z | z
        · exact hM row' z
        · rw [List.mem_singleton.mp z]; exact ⟨hl2, hrow⟩
    · rintro σ G ⟨F1, rs, ess, M, a, b, v5, v6, v7, v8, rfl, g, hpG, ha, hb, x, hl, hM⟩
      have hl : M.length = R := by rw [hl]; exact Int.toNat_natCast R
      obtain ⟨FX, g9, _, hm, _, _⟩ := x.frz g
      exact ⟨_, rfl, q FX G (.ref D) M R a b g9 hpG ha hb ⟨R1, by omega, by decide, by decide, hl, fun r z => (hM r z).1, fun r z => (hM r z).2⟩ R2 hm⟩
/-- x in xs, of data -/
theorem any_eqv {α : Type} [Dat α] (x : α) (l : List α) : ((l.map Dat.py).any fun z => PyData.eqv z (Dat.py x)) = true ↔ x ∈ l := by
  rw [List.any_eq_true]
  constructor
  · rintro ⟨z, hz, e⟩
    obtain ⟨y, hy, rfl⟩ := List.mem_map.mp hz
    rw [← (Dat.eqv y x).mp e]; exact hy
  · intro h
    exact ⟨_, List.mem_map.mpr ⟨x, h, rfl⟩, (Dat.eqv x x).mpr rfl⟩
theorem in_dat {α : Type} [Dat α] {K : PySem.W.Frag} {H : Hp} {v w : V} {x : α} {l : List α} {Q : VK} (hx : Is H v x) (hl : Is H w l) (q1 : x ∈ l → Q (.bl true) H) (q2 : x ∉ l → Q (.bl false) H) (hd : Dat.dep α + 1 ≤ 64 := by decide) : rInD K v w H Q := by
  refine ⟨Dat.py x, l.map Dat.py, Dat.dp hx, Dat.dp (d := l) hl, ?_, ?_, ?_⟩
  · show (PyData.canLay0 _ && decide _) = true
    rw [Dat.can, decide_eq_true (Nat.le_trans (Dat.depth x) (by omega))]; rfl
  · show (PyData.canLay0 (Dat.py l) && decide ((Dat.py l).depth ≤ 64)) = true
    rw [Dat.can, decide_eq_true (Nat.le_trans (Dat.depth l) hd)]; rfl
  · cases e : ((l.map Dat.py).any fun z => PyData.eqv z (Dat.py x)) with
    | true => exact q1 ((any_eqv x l).mp e)
    | false => exact q2 fun m => by rw [(any_eqv x l).mpr m] at e; cases e
/-! ### a list or a tuple walked -/
theorem pi_or {X : Cx} {tg e : Expr} {t1 t2 : TI} (h1 : L2.PI X tg e t1) (h2 : L2.PI X tg e t2) : L2.PI X tg e (fun σ H R => t1 σ H R ∨ t2 σ H R) :=
  ⟨fun pins s σ H R I h => h.elim (h1.run pins s σ H R I) (h2.run pins s σ H R I)⟩
/-! ### four -/
structure T4 (α β γ δ : Type) where
  a : α
  b : β
  c : γ
  d : δ
  deriving DecidableEq
instance [Dat α] [Dat β] [Dat γ] [Dat δ] : Dat (T4 α β γ δ) where
  rep := fun H v d => ∃ p x y z w, v = .ref p ∧ H p = some (.tup [x, y, z, w]) ∧ Is H x d.a ∧ Is H y d.b ∧ Is H z d.c ∧ Is H w d.d
  mono := fun s h => by
    obtain ⟨p, x, y, z, w, e, h, i, j, k, l⟩ := h
    exact ⟨p, x, y, z, w, e, s _ _ h, Is.up i s, Is.up j s, Is.up k s, Is.up l s⟩
  py := fun d => .tuple [Dat.py d.a, Dat.py d.b, Dat.py d.c, Dat.py d.d]
  dp := fun h => by
    obtain ⟨p, x, y, z, w, rfl, h, i, j, k, l⟩ := h
    exact .tup (SqT.of h) (.cons (Dat.dp i) (.cons (Dat.dp j) (.cons (Dat.dp k) (.cons (Dat.dp l) .nil))))
  can := fun d => by
    show (PyData.canLay0 (Dat.py d.a) && (PyData.canLay0 (Dat.py d.b) && (PyData.canLay0 (Dat.py d.c) && (PyData.canLay0 (Dat.py d.d) && true)))) = true
    rw [Dat.can, Dat.can, Dat.can, Dat.can]; rfl
  dep := max (Dat.dep α) (max (Dat.dep β) (max (Dat.dep γ) (Dat.dep δ))) + 1
  depth := fun d => by
    have h1 := Dat.depth d.a
    have h2 := Dat.depth d.b
    have h3 := Dat.depth d.c
    have h4 := Dat.depth d.d
    show max (PyData.depth (Dat.py d.a)) (max (PyData.depth (Dat.py d.b)) (max (PyData.depth (Dat.py d.c)) (max (PyData.depth (Dat.py d.d)) 0))) + 1 ≤ _
    omega
  eqv := fun a b => by
    obtain ⟨a, a', a'', a3⟩ := a; obtain ⟨b, b', b'', b3⟩ := b
    simp [PyData.eqv, PyData.eqvAll, Dat.eqv]
/-! ### blocks by their numbers -/
def sp_L_parted : Sp := fun vs H Q _ => ∃ (F : Hp) (g : Int), vs = [.int g] ∧ Same F H ∧ ∀ (F' H' : Hp) (u : Addr), Gr mu0 F H F' H' → F' u = some (.tup ([g / 8 % 2, g / 4 % 2, g / 2 % 2, g % 2].map V.int)) → Q (.ref u) H'
theorem ok_L_parted (t : Tx K mg) : FnOk P w K mg base CX0 1 t.a_L_parted t.fd_L_parted ["_law_block"] sp_L_parted := by
  refine t.F_L_parted.ok sc_L_parted (fun vs H Q E h => ?_) (fun cdv A outer s H vs Q E hr h => ?_)
  · obtain ⟨F, g, rfl, _⟩ := h
    rfl
  · obtain ⟨F, g, rfl, sF, q⟩ := h
    refine ⟨_, (pss_one (ps_ret (pe_tup (pa_cons (pe_op op_mod (pe_op op_fdiv (pv 0) pe_int) pe_int) (pa_cons (pe_op op_mod (pe_op op_fdiv (pv 0) pe_int) pe_int) (pa_cons (pe_op op_mod (pe_op op_fdiv (pv 0) pe_int) pe_int) (pa_cons (pe_op op_mod (pv 0) pe_int) pa_nil))))))), ?_⟩
    have g0 : Gr mu0 F H F H := Gr.refl sF
    have p2 : (0 : Int) < 2 := by decide
    refine ⟨_, rfl, _, _, rfl, rfl, ⟨by decide, by decide⟩, _, _, rfl, rfl, p2, _, rfl, _, _, rfl, rfl, ⟨by decide, by decide⟩, _, _, rfl, rfl, p2, _, rfl, _, _, rfl, rfl, ⟨by decide, by decide⟩, _, _, rfl, rfl, p2, _, rfl, _, _, rfl, rfl, p2, le_size (n := 4) (by decide), fun u nu => ?_⟩
    exact q _ _ u (g0.new nu) upd_same
def spreadL (l : List Int) : List Int := l.flatMap fun g => [g / 2, g % 2]
theorem spreadL_len : ∀ l : List Int, (spreadL l).length = 2 * l.length
  | [] => rfl
  | x :: l => by
    show ([x / 2, x % 2] ++ spreadL l).length = _
    rw [List.length_append, spreadL_len l]
    show 2 + 2 * l.length = 2 * (l.length + 1)
    omega
theorem spreadL_snoc {l : List Int} {i : Nat} {x : Int} (h : l[i]? = some x) : spreadL (l.take (i + 1)) = spreadL (l.take i) ++ [x / 2, x % 2] := by
  rw [List.take_add_one, h]
  unfold spreadL
  rw [List.flatMap_append]
  rfl
def sp_L_spread : Sp := fun vs H Q _ => ∃ (F : Hp) (a : Addr) (l : List Int), vs = [.ref a] ∧ Same F H ∧ (F a = some (.lst (l.map V.int)) ∨ F a = some (.tup (l.map V.int))) ∧ l.length ≤ 100 ∧ ∀ (F' H' : Hp) (u : Addr), Gr mu0 F H F' H' → F' u = some (.tup ((spreadL l).map V.int)) → Q (.ref u) H'
theorem ok_L_spread (t : Tx K mg) : FnOk P w K mg base CX0 1 t.a_L_spread t.fd_L_spread ["_law_signs_here"] sp_L_spread := by
  refine t.F_L_spread.ok sc_L_spread (fun vs H Q E h => ?_) (fun cdv A outer s H vs Q E hr h => ?_)
  · obtain ⟨F, a, l, rfl, _⟩ := h
    rfl
  · obtain ⟨F, a, l, rfl, sF, ha, hl, q⟩ := h
    refine ⟨_, (pss_cons (ps_set (i := 1) sc_L_spread.nd rfl (by first | exact Or.inl rfl | exact Or.inr rfl) (pe_lst pa_nil))
      (pss_cons (ps_for PassesOwn.never rfl (pi_or (pi_list (pv 0)) (pi_tup (pv 0))) (pg_name (i := 2) sc_L_spread.nd rfl (by first | exact Or.inl rfl | exact Or.inr rfl)) (pss_one (ps_set (i := 1) sc_L_spread.nd rfl (by first | exact Or.inl rfl | exact Or.inr rfl) (pe_op op_cat (pv 1) (pe_lst (pa_cons (pe_op op_fdiv (pv 2) pe_int) (pa_cons (pe_op op_mod (pv 2) pe_int) pa_nil)))))))
      (pss_one (ps_ret (pe_callTy (T := "tuple") call_tupQ (by rfl) t.n_tuple (by decide +kernel) (pa_cons (pv 1) pa_nil)))))), ?_⟩
    have g0 : Gr mu0 F H F H := Gr.refl sF
    have p2 : (0 : Int) < 2 := by decide
    refine ⟨nil_le, fun D nD => ?_⟩
    have g1 := g0.own (o := .lst []) nD
    have hD1 : (upd H D (.lst [])) D = some (.lst []) := upd_same
    generalize upd H D (.lst []) = H1 at g1 hD1 ⊢
    rcases ha with ha | ha
    · refine .inl ⟨_, rfl, a, rfl, ⟨_, SqL.of (g1.fh _ _ ha)⟩, for_list (K := K) (a := a) (xs := l.map V.int) (fun i σ G => ∃ (D : Addr) (v2 : Option V), σ = [some (.ref a), some (.ref D), v2] ∧ Gr mu0 F H F G ∧ G D = some (.lst ((spreadL (l.take i)).map V.int))) ⟨D, none, rfl, g1, hD1⟩ (fun i σ G _ ⟨_, _, _, g, _⟩ => SqL.of (g.fh _ _ ha)) ?_ ?_⟩
      · rintro i y σ G hi ⟨D, v2, rfl, g, hD⟩
        obtain ⟨x, rfl, hx⟩ := inr_int hi
        refine ⟨_, rfl, _, rfl, _, _, rfl, rfl, ⟨by decide, by decide⟩, _, rfl, _, _, rfl, rfl, p2, two_le, fun l2 n2 => ?_⟩
        refine ⟨D, l2, _, _, rfl, rfl, ln n2 hD, upd_same, by rw [List.length_map, spreadL_len, List.length_take]; show _ + 2 ≤ _; exact le_size (by omega), fun D2 n3 => ?_⟩
        refine ⟨D2, _, rfl, (g.own n2).own n3, ?_⟩
        rw [upd_same, spreadL_snoc hx, List.map_append]
        rfl
      · rintro σ G ⟨D, v2, rfl, g, hD⟩
        rw [List.length_map, List.take_length] at hD
        refine ⟨_, rfl, D, _, rfl, .inl ⟨SqL.of hD, fun u nu => ?_⟩⟩
        exact q _ _ u (g.new nu) upd_same
    · refine .inr ⟨_, rfl, a, rfl, ⟨_, SqT.of (g1.fh _ _ ha)⟩, for_tup (K := K) (a := a) (xs := l.map V.int) (fun i σ G => ∃ (D : Addr) (v2 : Option V), σ = [some (.ref a), some (.ref D), v2] ∧ Gr mu0 F H F G ∧ G D = some (.lst ((spreadL (l.take i)).map V.int))) ⟨D, none, rfl, g1, hD1⟩ (fun i σ G _ ⟨_, _, _, g, _⟩ => SqT.of (g.fh _ _ ha)) ?_ ?_⟩
      · rintro i y σ G hi ⟨D, v2, rfl, g, hD⟩
        obtain ⟨x, rfl, hx⟩ := inr_int hi
        refine ⟨_, rfl, _, rfl, _, _, rfl, rfl, ⟨by decide, by decide⟩, _, rfl, _, _, rfl, rfl, p2, two_le, fun l2 n2 => ?_⟩
        refine ⟨D, l2, _, _, rfl, rfl, ln n2 hD, upd_same, by rw [List.length_map, spreadL_len, List.length_take]; show _ + 2 ≤ _; exact le_size (by omega), fun D2 n3 => ?_⟩
        refine ⟨D2, _, rfl, (g.own n2).own n3, ?_⟩
        rw [upd_same, spreadL_snoc hx, List.map_append]
        rfl
      · rintro σ G ⟨D, v2, rfl, g, hD⟩
        rw [List.length_map, List.take_length] at hD
        refine ⟨_, rfl, D, _, rfl, .inl ⟨SqL.of hD, fun u nu => ?_⟩⟩
        exact q _ _ u (g.new nu) upd_same
theorem spread_pk {s : List Int} (l : s.length = 2) (h : SOk 2 s) : spreadL [pk s] = s := by
  obtain ⟨a, b, rfl⟩ := two_of l
  have ha := h a List.mem_cons_self
  have hb := h b (List.mem_cons_of_mem _ List.mem_cons_self)
  show [(2 * a + b) / 2, (2 * a + b) % 2] = [a, b]
  rw [show (2 * a + b) / 2 = a by omega, show (2 * a + b) % 2 = b by omega]
theorem spread_pk2 {s t : List Int} (l : s.length = 2) (h : SOk 2 s) (l' : t.length = 2) (h' : SOk 2 t) : spreadL [pk s, pk t] = s ++ t := by
  have e1 := spread_pk l h
  have e2 := spread_pk l' h'
  show spreadL [pk s] ++ spreadL [pk t] = _
  rw [e1, e2]
/-! ### both of a block, asked by the law -/
theorem sl4 {K : PySem.W.Frag} {H : Hp} {v : Addr} {a b c d e : V} {Q : VK} (h : SqT K H v [a, b, c, d, e]) (q : ∀ p, H p = none → Q (.ref p) (upd H p (.tup [a, b, c, d]))) : rSlQ K (.ref v) none (some 4) H Q :=
  slA_cut h (fun z => absurd z.2 (by show ¬ HT.sIx 5 5 (some 4) = 5; decide)) q
theorem near_half {row : Int} {far : Bool} : nearR row far / 2 = row ∧ nearR row far % 2 = (if far then 1 else 0) := by
  unfold nearR
  cases far with
  | false => exact ⟨by show (2 * row + 0) / 2 = row; omega, by show (2 * row + 0) % 2 = (0 : Int); omega⟩
  | true => exact ⟨by show (2 * row + 1) / 2 = row; omega, by show (2 * row + 1) % 2 = (1 : Int); omega⟩
theorem w93 : decide (V.str tOut.x = V.str "out") = true ∧ decide (V.str tStay.x = V.str "out") = false ∧ decide (V.str tStay.x = V.str "stay") = true ∧ decide (V.str tEnd.x = V.str "out") = false ∧ decide (V.str tEnd.x = V.str "stay") = false ∧ decide (V.str tEnd.x = V.str "end") = true := ⟨by decide +kernel, by decide +kernel, by decide +kernel, by decide +kernel, by decide +kernel, by decide +kernel⟩
theorem at_it (h : Hv) : atI [V.int (pk h.h0), V.int (pk h.h1)] (if h.far then 1 else 0) = some (.int (pk h.it)) := by
  obtain ⟨f, row, ri, h0, h1⟩ := h
  cases f <;> rfl
theorem at_ot (h : Hv) : atI [V.int (pk h.h0), V.int (pk h.h1)] (1 - (if h.far then 1 else 0)) = some (.int (pk h.ot)) := by
  obtain ⟨f, row, ri, h0, h1⟩ := h
  cases f <;> rfl
def sp_L_blocks : Sp := fun vs H Q _ => ∃ (F : Hp) (m tb st : V) (M : Mach) (R : Nat) (row side : Int) (g : Nat), vs = [m, tb, st, .int row, .int side, .int g] ∧ Same F H ∧ Is F m M ∧ Is F tb (overM M R) ∧ Is F st (stayM M R) ∧ MOk M R 2 ∧ R ≤ 2 ∧ 0 ≤ row ∧ row < R ∧ (side = -1 ∨ side = 1) ∧ g < 16 ∧ ∀ F' H', Gr mu0 F H F' H' → Q (.bl true) H'
theorem ok_L_blocks (t : Tx K mg) : FnOk P w K mg base CX0 5 t.a_L_blocks t.fd_L_blocks ["_law_machine", "_law_table", "_law_stays", "_law_row", "_law_side", "_law_block"] sp_L_blocks := by
  refine t.F_L_blocks.ok sc_L_blocks (fun vs H Q E h => ?_) (fun cdv A outer s H vs Q E hr h => ?_)
  · obtain ⟨F, m, tb, st, M, R, row, side, g, rfl, _⟩ := h
    rfl
  · obtain ⟨F, m, tb, st, M, R, row, side, g, rfl, sF, hm, htb, hst, hM, R2, r0, r1, hs, g16, q⟩ := h
    refine ⟨_, (pss_cons (ps_set (i := 6) sc_L_blocks.nd rfl (by first | exact Or.inl rfl | exact Or.inr rfl) (pe_call (ok_through t) (hr.mono (by decide)) (by rfl) t.m_through t.F_through.kp t.b_through .nil pass0 (pa_cons (pv 1) (pa_cons (pe_tup (pa_cons (pe_op op_fdiv (pv 5) pe_int) (pa_cons (pe_op op_mod (pv 5) pe_int) pa_nil))) (pa_cons (pe_op op_add (pe_op op_mul pe_int (pv 3)) (pe_callTy (T := "int") call_int1 (by rfl) t.n_int (by decide +kernel) (pa_cons (pe_cmpR op_eq (pv 4) pe_int (nomark _)) pa_nil))) (pa_cons (pv 4) pa_nil))))))
      (pss_cons (ps_set (i := 7) sc_L_blocks.nd rfl (by first | exact Or.inl rfl | exact Or.inr rfl) (pe_call (ok_through t) (hr.mono (by decide)) (by rfl) t.m_through t.F_through.kp t.b_through .nil pass0 (pa_cons (pv 0) (pa_cons (pe_call (ok_L_parted t) (hr.mono (by decide)) (by rfl) t.m_L_parted t.F_L_parted.kp t.b_L_parted .nil pass0 (pa_cons (pv 5) pa_nil)) (pa_cons (pv 3) (pa_cons (pv 4) pa_nil))))))
      (pss_cons (ps_if (pt_cmpR op_eq (pe_ix ix_tup (pv 6) pe_int (fun _ _ => rfl)) pe_str (nomark _)) (pss_cons (ps_if (PW.pt (pw_or (pt_cmpR (op_neD hr.units) (pe_slice sl_tupQ (pv 7) po_none (po_some pe_int)) (pe_tup (pa_cons pe_str (pa_cons (pe_call (ok_L_spread t) (hr.mono (by decide)) (by rfl) t.m_L_spread t.F_L_spread.kp t.b_L_spread .nil pass0 (pa_cons (pe_ix ix_tup (pv 6) pe_int (fun _ _ => rfl)) pa_nil)) (pa_cons (pe_op op_fdiv (pe_ix ix_tup (pv 6) pe_int (fun _ _ => rfl)) pe_int) (pa_cons (pe_ix ix_tup (pv 6) pe_int (fun _ _ => rfl)) pa_nil))))) (nomark _)) (pw_or1 (pt_cmpR op_lt (pe_ix ix_tup (pv 7) pe_int (fun _ _ => rfl)) (pe_ix ix_tup (pv 6) pe_int (fun _ _ => rfl)) (nomark _))))) (pss_one (ps_ret pe_bl)) pss_nil)
      (pss_one (ps_ret (pe_cmpR op_eq (pe_op op_mod (pe_ix ix_tup (pv 6) pe_int (fun _ _ => rfl)) pe_int) (pe_callTy (T := "int") call_int1 (by rfl) t.n_int (by decide +kernel) (pa_cons (pe_cmpR op_eq (pe_ix ix_tup (pv 6) pe_int (fun _ _ => rfl)) (pe_un un_neg pe_int) (nomark _)) pa_nil)) (nomark _))))) pss_nil)
      (pss_cons (ps_if (PW.pt (pw_or (pt_cmpR op_eq (pe_ix ix_tup (pv 6) pe_int (fun _ _ => rfl)) pe_str (nomark _)) (pw_or1 (pt_cmpR (op_inD (units65 hr)) (pe_tup (pa_cons (pe_ix ix_tup (pv 6) pe_int (fun _ _ => rfl)) (pa_cons (pe_ix ix_tup (pe_ix ix_tup (pv 6) pe_int (fun _ _ => rfl)) (pe_ix ix_tup (pv 6) pe_int (fun _ _ => rfl)) (fun _ _ => rfl)) pa_nil))) (pv 2) (by rfl))))) (pss_one (ps_ret (pe_cmpR (op_eqD hr.units) (pv 7) (pe_tup (pa_cons pe_str pa_nil)) (nomark _)))) pss_nil)
      (pss_cons (ps_if (PW.pt (pw_or (pt_cmpR op_ne (pe_ix ix_tup (pv 7) pe_int (fun _ _ => rfl)) pe_str (nomark _)) (pw_or (pt_cmpR op_ne (pe_op op_fdiv (pe_ix ix_tup (pv 7) pe_int (fun _ _ => rfl)) pe_int) (pe_ix ix_tup (pv 6) pe_int (fun _ _ => rfl)) (nomark _)) (pw_or1 (pt_cmpR op_lt (pe_ix ix_tup (pv 7) pe_int (fun _ _ => rfl)) (pe_ix ix_tup (pv 6) pe_int (fun _ _ => rfl)) (nomark _)))))) (pss_one (ps_ret pe_bl)) pss_nil)
      (pss_one (ps_ret (pe_cmpR (op_eqD hr.units) (pe_lc (own := [("_law_k", 8)]) (g := gName 8) rfl sc_L_blocks.nd (pi_range1 (by rfl) t.n_range (pa_cons pe_int pa_nil)) (blkOk_by (N := N_L_blocks) (sc := defScope s_L_blocks) (by decide +kernel)) (fun _ _ _ _ _ => (pg_name (i := 8) sc_L_blocks.nd rfl (by first | exact Or.inl rfl | exact Or.inr rfl))) (fun _ _ _ _ _ => (pts_one (pt_cmpR op_ne (pe_op op_fdiv (pv 8) pe_int) (pe_op op_fdiv (pe_ix (ixK (K := K) (r := rIxT) rfl ix_tup) (pv 7) pe_int (fun _ _ => rfl)) pe_int) (nomark _)))) (fun _ _ _ _ _ => (pe_ix (ixK (K := K) (r := rIxT) rfl ix_tup) (pe_ix (ixK (K := K) (r := rIxT) rfl ix_tup) (pv 7) pe_int (fun _ _ => rfl)) (pv 8) (fun _ _ => rfl)))) (pe_callTy (T := "list") call_listQ (by rfl) t.n_list (by decide +kernel) (pa_cons (pe_call (ok_L_spread t) (hr.mono (by decide)) (by rfl) t.m_L_spread t.F_L_spread.kp t.b_L_spread .nil pass0 (pa_cons (pe_lst (pa_cons (pe_ix ix_tup (pe_ix ix_tup (pv 6) pe_int (fun _ _ => rfl)) (pe_op op_sub pe_int (pe_ix ix_tup (pv 6) pe_int (fun _ _ => rfl))) (fun _ _ => rfl)) pa_nil)) pa_nil)) pa_nil)) (nomark _))))))))), ?_⟩
    have g0 : Gr mu0 F H F H := Gr.refl sF
    have hO := over_ok hM R2
    have bit : ∀ x : Int, 0 ≤ x % 2 ∧ x % 2 < 2 := fun x => by omega
    have so : ∀ x y : Int, SOk 2 [x % 2, y % 2] := fun x y z m => by
      rcases List.mem_cons.mp m with rfl | m
      · exact bit x
      · rw [List.mem_singleton.mp m]; exact bit y
    have a0 : HvOk R 2 2 ⟨decide (side = 1), row, decide (side = 1), [(g : Int) / 8 % 2, (g : Int) / 4 % 2], [(g : Int) / 2 % 2, (g : Int) % 2]⟩ := ⟨rfl, rfl, so _ _, so _ _, r0, r1⟩
    have bo := four hM R2 a0 rfl
    have bo : Both M R (thr (overM M R) (2 * R) 4 [2 * ((g : Int) / 8 % 2) + (g : Int) / 4 % 2, 2 * ((g : Int) / 2 % 2) + (g : Int) % 2] (nearR row (decide (side = 1))) (decide (side = 1))) (thr M R 2 [(g : Int) / 8 % 2, (g : Int) / 4 % 2, (g : Int) / 2 % 2, (g : Int) % 2] row (decide (side = 1))) := bo
    rw [show 2 * ((g : Int) / 8 % 2) + (g : Int) / 4 % 2 = (g : Int) / 4 by omega, show 2 * ((g : Int) / 2 % 2) + (g : Int) % 2 = (g : Int) % 4 by omega] at bo
    have ρ0 : 0 ≤ nearR row (decide (side = 1)) ∧ nearR row (decide (side = 1)) < ((2 * R : Nat) : Int) := by
      unfold nearR
      split <;> omega
    refine ⟨_, rfl, _, rfl, _, _, rfl, rfl, ⟨by decide, by decide⟩, _, rfl, _, _, rfl, rfl, (by show (0 : Int) < 4; decide), two_le, fun b nb => ?_⟩
    dsimp only
    have g1 := g0.new (o := .tup [.int ((g : Int) / 4), .int ((g : Int) % 4)]) nb
    have hb : (upd F b (.tup [.int ((g : Int) / 4), .int ((g : Int) % 4)])) b = some (.tup ([(g : Int) / 4, (g : Int) % 4].map V.int)) := upd_same
    generalize upd F b (.tup [.int ((g : Int) / 4), .int ((g : Int) % 4)]) = F1 at g1 hb
    generalize upd H b (.tup [.int ((g : Int) / 4), .int ((g : Int) % 4)]) = H1 at g1 ⊢
    refine ⟨_, rfl, _, _, rfl, rfl, .inl ⟨by decide, by decide⟩, _, rfl, rfl, .inr ⟨_, rfl, _, _, rfl, rfl, ?_⟩⟩
    have en : (2 * row + if decide (V.int side = V.int 1) = true then 1 else 0) = nearR row (decide (side = 1)) := by
      rw [int_eq2]; rfl
    dsimp only
    rw [en]
    have s2 : SOk 4 [(g : Int) / 4, (g : Int) % 4] := fun x m => by
      rcases List.mem_cons.mp m with rfl | m
      · omega
      · rw [List.mem_singleton.mp m]; omega
    refine ⟨_, rfl, F1, tb, b, overM M R, 2 * R, 4, [(g : Int) / 4, (g : Int) % 4], nearR row (decide (side = 1)), side, rfl, g1.fh, htb.up g1.ff, hO, hb, s2, by show 1 ≤ 2; decide, by show 2 ≤ 8; decide, ρ0.1, ρ0.2, fun F2 H2 v2 g2 hv2 => ?_⟩
    refine ⟨_, rfl, _, rfl, F2, g, rfl, g2.fh, fun F3 H3 b4 g3 hb4 => ?_⟩
    have t3 := (g1.trans g2).trans g3
    have s4 : SOk 2 [(g : Int) / 8 % 2, (g : Int) / 4 % 2, (g : Int) / 2 % 2, (g : Int) % 2] := (so _ _).app (so _ _)
    refine ⟨_, rfl, _, rfl, F3, m, b4, M, R, 2, [(g : Int) / 8 % 2, (g : Int) / 4 % 2, (g : Int) / 2 % 2, (g : Int) % 2], row, side, rfl, t3.fh, hm.up t3.ff, hM, hb4, s4, by show 1 ≤ 4; decide, by show 4 ≤ 8; decide, r0, r1, fun F4 H4 v4 g4 hv4 => ?_⟩
    have t4 := t3.trans g4
    have hv2 := (hv2.up g3.ff).up g4.ff
    have hst4 := hst.up t4.ff
    have four_le : 4 ≤ sizeLine := le_size (by decide)
    clear g1 g2 g3 g4 t3 hb hb4
    rcases bo with ⟨h, wa, m2, m4, a, hw, e2, e4, le⟩ | ⟨e2, e4⟩ | ⟨h, m2, a, e2, es, e4⟩ | ⟨h, m2, m4, r, x, sx, a, e2, es, ls, hs, hx, e4, le⟩
    all_goals rw [e2] at hv2; rw [e4] at hv4
    · obtain ⟨p2, q2, rfl, hp2, hq2⟩ := hv2
      obtain ⟨p4, q4, rfl, hp4, hq4⟩ := hv4
      have U2 : ∀ G, Same F4 G → SqT K G p2 _ := fun G s => SqT.of (s _ _ hp2)
      have U4 : ∀ G, Same F4 G → SqT K G p4 _ := fun G s => SqT.of (s _ _ hp4)
      refine ⟨_, rfl, p2, _, _, _, rfl, rfl, U2 _ t4.fh, atI_nat (j := 0) rfl, rfl, _, rfl, ifT w93.1 ?_⟩
      refine ⟨_, rfl, _, rfl, sl4 (U4 _ t4.fh) fun p1 n1 => ?_⟩
      have m1 := t4.own (o := .tup [.str tOut.x, .ref q4, .int h.row, .int wa]) n1
      have h1 : (upd H4 p1 (.tup [.str tOut.x, .ref q4, .int h.row, .int wa])) p1 = some (.tup [.str tOut.x, .ref q4, .int h.row, .int wa]) := upd_same
      generalize upd H4 p1 (.tup [.str tOut.x, .ref q4, .int h.row, .int wa]) = G1 at m1 h1 ⊢
      refine ⟨_, rfl, p2, _, _, _, rfl, rfl, U2 _ m1.fh, atI_nat (j := 1) rfl, F4, q2, [pk h.h0, pk h.h1], rfl, m1.fh, .inr hq2, by show 2 ≤ 100; decide, fun F5 G5 u5 g5 hu5 => ?_⟩
      have m5 := m1.trans g5
      have h5 := g5.fr _ _ h1 (fun z => z)
      have s5 : Same F4 G5 := fun c o h => m5.fh _ _ (g5.ff _ _ h)
      refine ⟨_, rfl, p2, _, _, _, rfl, rfl, U2 _ s5, atI_nat (j := 2) rfl, _, _, rfl, rfl, ⟨by decide, by decide⟩, _, rfl, p2, _, _, _, rfl, rfl, U2 _ s5, atI_nat (j := 3) rfl, four_le, fun u nu => ?_⟩
      dsimp only
      rw [near_half.1]
      have m6 := m5.own (o := .tup [.str "out", .ref u5, .int h.row, .int wa]) nu
      have h6 := ln (u := .tup [.str "out", .ref u5, .int h.row, .int wa]) nu h5
      have hu6 : (upd G5 u (.tup [.str "out", .ref u5, .int h.row, .int wa])) u = some (.tup [.str tOut.x, .ref u5, .int h.row, .int wa]) := upd_same
      generalize upd G5 u (.tup [.str "out", .ref u5, .int h.row, .int wa]) = G6 at m6 h6 hu6 ⊢
      have s6 : Same F4 G6 := fun c o h => m6.fh _ _ (g5.ff _ _ h)
      refine ne_dat (a := (⟨tOut, ⟨h.h0 ++ h.h1⟩, h.row, wa⟩ : T4 TStr (Tup Int) Int Int)) (b := ⟨tOut, ⟨spreadL [pk h.h0, pk h.h1]⟩, h.row, wa⟩) ⟨p1, _, _, _, _, rfl, h6, rfl, ⟨q4, _, rfl, s6 _ _ hq4, all_ints _⟩, rfl, rfl⟩ ⟨u, _, _, _, _, rfl, hu6, rfl, ⟨u5, _, rfl, m6.fh _ _ hu5, all_ints _⟩, rfl, rfl⟩ ⟨_, rfl, ifF (by rw [spread_pk2 a.l0 a.s0 a.l1 a.s1, decide_eq_true rfl]; rfl) ?_⟩
      refine ⟨_, rfl, p4, _, _, _, rfl, rfl, U4 _ s6, atI_nat (j := 4) rfl, _, rfl, p2, _, _, _, rfl, rfl, U2 _ s6, atI_nat (j := 4) rfl, _, _, rfl, rfl, _, rfl, ifF (decide_eq_false (by omega)) ?_⟩
      refine ⟨_, rfl, p2, _, _, _, rfl, rfl, U2 _ s6, atI_nat (j := 2) rfl, _, _, rfl, rfl, (by show (0 : Int) < 2; decide), _, rfl, p2, _, _, _, rfl, rfl, U2 _ s6, atI_nat (j := 3) rfl, _, rfl, rfl, .inr ⟨_, rfl, rfl, ?_⟩⟩
      dsimp only
      have e : decide (V.int (nearR h.row (decide (-wa = 1)) % 2) = V.int (if decide (V.int wa = V.int (-1)) = true then 1 else 0)) = true := by
        rw [near_half.2, int_eq2]
        rcases hw with rfl | rfl <;> decide
      have z := q F5 G6 m6
      first
        | (rw [e]; exact z)
        | (refine (show Q (.bl true) G6 → _ from fun z => ?_) z; rw [show V.int (-1 : Int) = V.int (-1) from rfl] at *; simpa [e] using z)
    · obtain ⟨p2, rfl, hp2⟩ := hv2
      have U2 : ∀ G, Same F4 G → SqT K G p2 _ := fun G s => SqT.of (s _ _ hp2)
      refine ⟨_, rfl, p2, _, _, _, rfl, rfl, U2 _ t4.fh, atI_nat (j := 0) rfl, rfl, _, rfl, ifF w93.2.1 ?_⟩
      refine ⟨_, rfl, p2, _, _, _, rfl, rfl, U2 _ t4.fh, atI_nat (j := 0) rfl, rfl, _, rfl, ifT w93.2.2.1 ?_⟩
      refine ⟨_, rfl, one_le, fun u nu => ?_⟩
      have m1 := t4.own (o := .tup [.str "stay"]) nu
      refine eq_dat (a := ThR.stay) (b := ThR.stay) (hv4.up m1.fh) ⟨u, rfl, upd_same⟩ ?_
      rw [decide_eq_true rfl]
      exact q _ _ m1
    · obtain ⟨p2, q2, rfl, hp2, hq2⟩ := hv2
      have U2 : ∀ G, Same F4 G → SqT K G p2 _ := fun G s => SqT.of (s _ _ hp2)
      refine ⟨_, rfl, p2, _, _, _, rfl, rfl, U2 _ t4.fh, atI_nat (j := 0) rfl, rfl, _, rfl, ifF w93.2.2.2.1 ?_⟩
      refine ⟨_, rfl, p2, _, _, _, rfl, rfl, U2 _ t4.fh, atI_nat (j := 0) rfl, rfl, _, rfl, ifF w93.2.2.2.2.1 ?_⟩
      refine ⟨_, rfl, p2, _, _, _, rfl, rfl, U2 _ t4.fh, atI_nat (j := 2) rfl, _, rfl, p2, _, _, _, rfl, rfl, U2 _ t4.fh, atI_nat (j := 1) rfl, _, rfl, p2, _, _, _, rfl, rfl, U2 _ t4.fh, atI_nat (j := 3) rfl, q2, _, _, _, rfl, rfl, SqT.of (t4.fh _ _ hq2), at_it h, two_le, fun u nu => ?_⟩
      have m1 := t4.own (o := .tup [.int (nearR h.row h.ri), .int (pk h.it)]) nu
      have hu : (upd H4 u (.tup [.int (nearR h.row h.ri), .int (pk h.it)])) u = some (.tup [.int (nearR h.row h.ri), .int (pk h.it)]) := upd_same
      generalize upd H4 u (.tup [.int (nearR h.row h.ri), .int (pk h.it)]) = G1 at m1 hu ⊢
      have mem := (stay_at (M := M) a.it.1 a.it.2 a.r0 a.r1 h.ri).mpr es
      refine ⟨_, rfl, in_dat (α := PI) (x := ⟨nearR h.row h.ri, pk h.it⟩) (l := stayM M R) ⟨u, _, _, rfl, hu, rfl, rfl⟩ (hst4.up m1.fh) (fun _ => ?_) (fun n => absurd mem n)⟩
      refine ⟨_, rfl, ifT rfl ?_⟩
      refine ⟨_, rfl, one_le, fun u nu => ?_⟩
      have m2 := m1.own (o := .tup [.str "stay"]) nu
      refine eq_dat (a := ThR.stay) (b := ThR.stay) (hv4.up m2.fh) ⟨u, rfl, upd_same⟩ ?_
      rw [decide_eq_true rfl]
      exact q _ _ m2
    · obtain ⟨p2, q2, rfl, hp2, hq2⟩ := hv2
      obtain ⟨p4, q4, rfl, hp4, hq4⟩ := hv4
      have U2 : ∀ G, Same F4 G → SqT K G p2 _ := fun G s => SqT.of (s _ _ hp2)
      have U4 : ∀ G, Same F4 G → SqT K G p4 _ := fun G s => SqT.of (s _ _ hp4)
      refine ⟨_, rfl, p2, _, _, _, rfl, rfl, U2 _ t4.fh, atI_nat (j := 0) rfl, rfl, _, rfl, ifF w93.2.2.2.1 ?_⟩
      refine ⟨_, rfl, p2, _, _, _, rfl, rfl, U2 _ t4.fh, atI_nat (j := 0) rfl, rfl, _, rfl, ifF w93.2.2.2.2.1 ?_⟩
      refine ⟨_, rfl, p2, _, _, _, rfl, rfl, U2 _ t4.fh, atI_nat (j := 2) rfl, _, rfl, p2, _, _, _, rfl, rfl, U2 _ t4.fh, atI_nat (j := 1) rfl, _, rfl, p2, _, _, _, rfl, rfl, U2 _ t4.fh, atI_nat (j := 3) rfl, q2, _, _, _, rfl, rfl, SqT.of (t4.fh _ _ hq2), at_it h, two_le, fun u nu => ?_⟩
      have m1 := t4.own (o := .tup [.int (nearR h.row h.ri), .int (pk h.it)]) nu
      have hu : (upd H4 u (.tup [.int (nearR h.row h.ri), .int (pk h.it)])) u = some (.tup [.int (nearR h.row h.ri), .int (pk h.it)]) := upd_same
      generalize upd H4 u (.tup [.int (nearR h.row h.ri), .int (pk h.it)]) = G1 at m1 hu ⊢
      have mem : ¬ (⟨nearR h.row h.ri, pk h.it⟩ : PI) ∈ stayM M R := fun z => by
        have := (stay_at (M := M) a.it.1 a.it.2 a.r0 a.r1 h.ri).mp z
        rw [es] at this; cases this
      refine ⟨_, rfl, in_dat (α := PI) (x := ⟨nearR h.row h.ri, pk h.it⟩) (l := stayM M R) ⟨u, _, _, rfl, hu, rfl, rfl⟩ (hst4.up m1.fh) (fun n => absurd n mem) (fun _ => ?_)⟩
      refine ⟨_, rfl, ifF rfl ?_⟩
      have s1 := m1.fh
      refine ⟨_, rfl, p4, _, _, _, rfl, rfl, U4 _ s1, atI_nat (j := 0) rfl, rfl, _, rfl, ifF (by rw [w93.2.2.2.2.2]; rfl) ?_⟩
      have eh : ((if h.far then (2 : Int) else 0) + x) / 2 = (if h.far then 1 else 0) := by
        cases h.far with
        | false => show ((0 : Int) + x) / 2 = 0; omega
        | true => show ((2 : Int) + x) / 2 = 1; omega
      refine ⟨_, rfl, p4, _, _, _, rfl, rfl, U4 _ s1, atI_nat (j := 3) rfl, _, _, rfl, rfl, ⟨by decide, by decide⟩, _, rfl, p2, _, _, _, rfl, rfl, U2 _ s1, atI_nat (j := 3) rfl, rfl, _, rfl, ifF (by show (!decide (V.int (((if h.far then (2 : Int) else 0) + x) / 2) = V.int (if h.far then 1 else 0))) = false; rw [int_eq2, decide_eq_true eh]; rfl) ?_⟩
      refine ⟨_, rfl, p4, _, _, _, rfl, rfl, U4 _ s1, atI_nat (j := 4) rfl, _, rfl, p2, _, _, _, rfl, rfl, U2 _ s1, atI_nat (j := 4) rfl, _, _, rfl, rfl, _, rfl, ifF (decide_eq_false (by omega)) ?_⟩
      obtain ⟨L4, eL, l4, fin4⟩ : ∃ L4 : List Int, (if h.far then h.h0 ++ sx else sx ++ h.h1) = L4 ∧ L4.length = 4 ∧ ((List.range 4).filter fun k : Nat => !decide ((k : Int) / 2 = (if h.far then 1 else 0))).map (fun k => (L4[k]?).getD 0) = h.ot := by
        refine ⟨_, rfl, ?_⟩
        obtain ⟨f, row, ri, h0, h1⟩ := h
        obtain ⟨x0, x1, rfl⟩ := two_of a.l0
        obtain ⟨y0, y1, rfl⟩ := two_of a.l1
        obtain ⟨z0, z1, rfl⟩ := two_of ls
        cases f <;> exact ⟨rfl, rfl⟩
      rw [eL] at hq4
      refine ⟨4, rfl, by decide, by decide, fun D nD => lc_range (lo := 0) (n := 4) (fun i G => Gr mu0 F H F4 G ∧ G1 D = none ∧ G D = some (.lst ((((List.range i).filter fun k : Nat => !decide ((k : Int) / 2 = (if h.far then 1 else 0))).map fun k => (L4[k]?).getD 0).map V.int))) ⟨m1.own nD, nD, upd_same⟩ ?_ ?_⟩
      · rintro i G hi ⟨m2, nD, hD⟩
        have hi : i < 4 := hi
        refine ⟨rfl, _, rfl, _, _, rfl, rfl, ⟨by decide, by decide⟩, _, rfl, p4, _, _, _, rfl, rfl, U4 _ m2.fh, atI_nat (j := 3) rfl, _, _, rfl, rfl, ⟨by decide, by decide⟩, rfl, _, rfl, ?_⟩
        have ec : (!decide (V.int ((0 + (i : Int)) / 2) = V.int (((if h.far then (2 : Int) else 0) + x) / 2))) = (!decide ((i : Int) / 2 = (if h.far then 1 else 0))) := by rw [int_eq2, Int.zero_add, eh]
        have er : (List.range (i + 1)).filter (fun k : Nat => !decide ((k : Int) / 2 = (if h.far then 1 else 0))) = (List.range i).filter (fun k : Nat => !decide ((k : Int) / 2 = (if h.far then 1 else 0))) ++ if (!decide ((i : Int) / 2 = (if h.far then 1 else 0))) = true then [i] else [] := by
          rw [List.range_succ, List.filter_append]
          congr 1
          exact filter_one
        by_cases c : (!decide ((i : Int) / 2 = (if h.far then 1 else 0))) = true
        · have li : i < L4.length := by omega
          refine ifT (ec.trans c) ⟨_, rfl, p4, _, _, _, rfl, rfl, U4 _ m2.fh, atI_nat (j := 1) rfl, _, rfl, q4, _, _, .int (L4[i]), rfl, rfl, SqT.of (m2.fh _ _ hq4), at_of (j := i) (by omega) (by rw [List.getElem?_map, List.getElem?_eq_getElem li]; rfl), ?_⟩
          refine ⟨_, hD, by rw [List.length_map, List.length_map]; exact lt_size (Nat.le_trans (List.length_filter_le _ _) (by rw [List.length_range]; omega)), m2.set (m1.fh.free nD) (.inl (m1.th _ nD)), nD, ?_⟩
          rw [upd_same, er, if_pos c, List.map_append, List.map_append]
          show some (HO.lst (_ ++ [V.int L4[i]])) = some (HO.lst (_ ++ [V.int ((L4[i]?).getD 0)]))
          rw [List.getElem?_eq_getElem li]
          rfl
        · refine ifF (ec.trans (Bool.eq_false_iff.mpr c)) ⟨m2, nD, ?_⟩
          rw [er, if_neg c, List.append_nil]
          exact hD
      · rintro G ⟨m2, nD, hD⟩
        rw [fin4] at hD
        refine ⟨_, rfl, p2, _, _, _, rfl, rfl, U2 _ m2.fh, atI_nat (j := 1) rfl, _, rfl, p2, _, _, _, rfl, rfl, U2 _ m2.fh, atI_nat (j := 3) rfl, _, _, rfl, rfl, q2, _, _, _, rfl, rfl, SqT.of (m2.fh _ _ hq2), at_ot h, one_le, fun l nl => ?_⟩
        have m3 := m2.new (o := .lst [.int (pk h.ot)]) nl
        have hl3 : (upd F4 l (.lst [.int (pk h.ot)])) l = some (.lst ([pk h.ot].map V.int)) := upd_same
        have hD3 := ln (u := .lst [.int (pk h.ot)]) nl hD
        generalize upd F4 l (.lst [.int (pk h.ot)]) = F5 at m3 hl3
        generalize upd G l (.lst [.int (pk h.ot)]) = G3 at m3 hD3 ⊢
        refine ⟨F5, l, [pk h.ot], rfl, m3.fh, .inl hl3, by show 1 ≤ 100; decide, fun F6 G6 u6 g6 hu6 => ?_⟩
        have m6 := m3.trans g6
        have hD6 := g6.fr _ _ hD3 (fun z => z)
        refine ⟨u6, _, rfl, .inr (SqT.of (m6.fh _ _ hu6)), fun l2 n2 => ?_⟩
        have m7 := m6.own (o := .lst ((spreadL [pk h.ot]).map V.int)) n2
        refine eq_dat (a := h.ot) (b := spreadL [pk h.ot]) ⟨D, _, rfl, ln n2 hD6, all_ints _⟩ ⟨l2, _, rfl, upd_same, all_ints _⟩ ?_
        rw [show decide (h.ot = spreadL [pk h.ot]) = true from decide_eq_true (spread_pk a.ot.1 a.ot.2).symm]
        exact q _ _ m7
/-! ### both walks, asked by the law -/
theorem filter_1 {α : Type} (p : α → Bool) (k : α) : [k].filter p = if p k = true then [k] else [] := by
  cases h : p k with
  | true => rw [List.filter_cons_of_pos h]; rfl
  | false => rw [List.filter_cons_of_neg (by rw [h]; decide)]; rfl
theorem z_len {at_ : Int} {z l : List PI} (h : offB at_ z = offB at_ l) (r : z.Pairwise (fun p q => p.a < q.a)) : z.length ≤ l.length + 2 := by
  have nd : (z.map (·.a)).Nodup := List.pairwise_map.mpr (r.imp fun {p q} h e => by omega)
  have sub : (z.map (·.a)) ⊆ l.map (·.a) ++ [2 * at_, 2 * at_ + 1] := fun x m => by
    obtain ⟨p, mp, rfl⟩ := List.mem_map.mp m
    by_cases k : p.a / 2 = at_
    · refine List.mem_append.mpr (.inr ?_)
      have : p.a = 2 * at_ ∨ p.a = 2 * at_ + 1 := by omega
      rcases this with e | e <;> rw [e]
      · exact List.mem_cons_self
      · exact List.mem_cons_of_mem _ List.mem_cons_self
    · have : p ∈ offB at_ z := List.mem_filter.mpr ⟨mp, by simpa using k⟩
      rw [h] at this
      exact List.mem_append.mpr (.inl (List.mem_map.mpr ⟨p, (List.mem_filter.mp this).1, rfl⟩))
  have := nd.length_le_of_subset sub
  rw [List.length_map, List.length_append, List.length_map] at this
  exact this
theorem upd_zero {W : Wk} {ys : List Int} {s : List Int} (h : ∀ a, a ∉ ys → ∀ v ∈ W.B a, v = 0) : ∀ a, a ∉ W.at_ :: ys → ∀ v ∈ updB W.B W.at_ s a, v = 0 := fun a ha => by
  unfold updB
  rw [if_neg fun e => ha (by rw [e]; exact List.mem_cons_self)]
  exact h a fun m => ha (List.mem_cons_of_mem _ m)
theorem byB_fin {M : Mach} {R S k : Nat} : ∀ (n j : Nat) (W : Wk), (∃ ys : List Int, ys.length ≤ j ∧ ∀ a, a ∉ ys → ∀ v ∈ W.B a, v = 0) → ∃ ys : List Int, ys.length ≤ j + n ∧ ∀ a, a ∉ ys → ∀ v ∈ (byB M R S k n W).B a, v = 0
  | 0, j, W, h => h
  | n + 1, j, W, ⟨ys, hl, h⟩ => by
    cases et : thr M R S (W.B W.at_) W.row W.far with
    | stay => rw [byB_stay et]; exact ⟨ys, by omega, h⟩
    | fin w s r x m =>
      by_cases e : w = tEnd
      · subst e
        rw [byB_end et]
        exact ⟨W.at_ :: ys, by rw [List.length_cons]; omega, upd_zero h⟩
      · have e2 : byB M R S k (n + 1) W = byB M R S k n (W.out s r x m) := by rw [byB, et]; exact if_neg e
        rw [e2]
        obtain ⟨zs, l, hz⟩ := byB_fin n (j + 1) (W.out s r x m) ⟨W.at_ :: ys, by rw [List.length_cons]; omega, upd_zero h⟩
        exact ⟨zs, by omega, hz⟩
theorem st_len {M : Mach} {R S n : Nat} {z : List PI} (st : IsSt z (fB 2 (byB M R S 2 n (W0 2)).B)) : z.length ≤ 2 * n := by
  obtain ⟨ys, hl, h⟩ := byB_fin (M := M) (R := R) (S := S) (k := 2) n 0 (W0 2) ⟨[], Nat.le_refl 0, fun a _ v m => (List.mem_replicate.mp m).2⟩
  have nd : (z.map (·.a)).Nodup := st_nd st
  have sub : (z.map (·.a)) ⊆ ys.flatMap fun a => [2 * a, 2 * a + 1] := fun x m => by
    obtain ⟨p, mp, rfl⟩ := List.mem_map.mp m
    obtain ⟨h1, h2⟩ := st.nz mp
    rw [List.mem_flatMap]
    refine ⟨p.a / 2, ?_, ?_⟩
    · by_cases k : p.a / 2 ∈ ys
      · exact k
      · exfalso
        have z0 := h _ k
        unfold fB at h1
        cases e : ((byB M R S 2 n (W0 2)).B (p.a / ((2 : Nat) : Int)))[(p.a % ((2 : Nat) : Int)).toNat]? with
        | none => rw [e] at h1; exact h2 h1.symm
        | some v =>
          rw [e] at h1
          have := z0 v (List.mem_of_getElem? e)
          rw [this] at h1
          exact h2 h1.symm
    · have : p.a = 2 * (p.a / 2) ∨ p.a = 2 * (p.a / 2) + 1 := by omega
      rcases this with e | e
      · exact List.mem_cons.mpr (.inl e)
      · exact List.mem_cons_of_mem _ (List.mem_singleton.mpr e)
  have k1 := nd.length_le_of_subset sub
  have k2 : ∀ ys : List Int, (ys.flatMap fun a => [2 * a, 2 * a + 1]).length = 2 * ys.length := fun ys => by
    induction ys with
    | nil => rfl
    | cons a ys ih =>
      rw [List.flatMap_cons, List.length_append, ih]
      show 2 + 2 * ys.length = 2 * (ys.length + 1)
      omega
  rw [List.length_map, k2] at k1
  omega
theorem sl2n {K : PySem.W.Frag} {H : Hp} {v : Addr} {a b c d e : V} {Q : VK} (h : SqT K H v [a, b, c, d, e]) (q : ∀ p, H p = none → Q (.ref p) (upd H p (.tup [c, d, e]))) : rSlQ K (.ref v) (some 2) none H Q :=
  slA_cut h (fun z => absurd z.1 (by show ¬ HT.sIx 5 0 (some 2) = 0; decide)) q
theorem w_ne (w : TStr) (h : w = tOnB ∨ w = tStay) : (!decide (V.str w.x = V.str "end")) = true := by
  rcases h with rfl | rfl <;> decide +kernel
theorem plB_near {O W : Wk} (h : WR O W) : plB 4 W = 2 * plB 2 O + O.row % 2 ∧ W.row = O.row / 2 := by
  rw [h.row, near_half.1, near_half.2]
  refine ⟨?_, rfl⟩
  unfold plB
  rw [h.at_, h.far]
  cases W.far
  · show W.at_ * 4 + 0 = 2 * (W.at_ * 2 + 0) + 0; omega
  · show W.at_ * 4 + (4 - 1) = 2 * (W.at_ * 2 + (2 - 1)) + 1; omega
def sp_L_walks : Sp := fun vs H Q _ => ∃ (F : Hp) (m tb st : V) (M : Mach) (R n : Nat), vs = [m, tb, st, .int n] ∧ Same F H ∧ Is F m M ∧ Is F tb (overM M R) ∧ Is F st (stayM M R) ∧ MOk M R 2 ∧ R ≤ 2 ∧ n ≤ 100 ∧ ∀ F' H', Gr mu0 F H F' H' → Q (.bl true) H'
theorem ok_L_walks (t : Tx K mg) : FnOk P w K mg base CX0 6 t.a_L_walks t.fd_L_walks ["_law_machine", "_law_table", "_law_stays", "_law_many"] sp_L_walks := by
  refine t.F_L_walks.ok sc_L_walks (fun vs H Q E h => ?_) (fun cdv A outer s H vs Q E hr h => ?_)
  · obtain ⟨F, m, tb, st, M, R, n, rfl, _⟩ := h
    rfl
  · obtain ⟨F, m, tb, st, M, R, n, rfl, sF, hm, htb, hst, hM, R2, hn, q⟩ := h
    refine ⟨_, (pss_cons (ps_asg (pe_call (ok_by_blocks t) (hr.mono (by decide)) (by rfl) t.m_by_blocks t.F_by_blocks.kp t.b_by_blocks .nil pass0 (pa_cons (pv 1) (pa_cons pe_int (pa_cons (pv 3) pa_nil)))) (pg_tup rfl (pgs_cons (pg_name (i := 4) sc_L_walks.nd rfl (by first | exact Or.inl rfl | exact Or.inr rfl)) (pgs_cons (pg_name (i := 5) sc_L_walks.nd rfl (by first | exact Or.inl rfl | exact Or.inr rfl)) (pgs_cons (pg_name (i := 6) sc_L_walks.nd rfl (by first | exact Or.inl rfl | exact Or.inr rfl)) (pgs_cons (pg_name (i := 7) sc_L_walks.nd rfl (by first | exact Or.inl rfl | exact Or.inr rfl)) (pgs_cons (pg_name (i := 8) sc_L_walks.nd rfl (by first | exact Or.inl rfl | exact Or.inr rfl)) pgs_nil)))))))
      (pss_cons (ps_set (i := 9) sc_L_walks.nd rfl (by first | exact Or.inl rfl | exact Or.inr rfl) (pe_call (ok_by_blocks t) (hr.mono (by decide)) (by rfl) t.m_by_blocks t.F_by_blocks.kp t.b_by_blocks .nil pass0 (pa_cons (pv 0) (pa_cons pe_int (pa_cons (pv 3) pa_nil)))))
      (pss_cons (ps_if (pt_cmpR op_ne (pv 4) pe_str (nomark _)) (pss_cons (ps_if (PW.pt (pw_or (pt_cmpR op_ne (pe_ix ix_tup (pv 9) pe_int (fun _ _ => rfl)) (pv 4) (nomark _)) (pw_or1 (pt_cmpR op_lt (pe_ix ix_tup (pv 9) pe_int (fun _ _ => rfl)) (pv 5) (nomark _))))) (pss_one (ps_ret pe_bl)) pss_nil)
      (pss_one (ps_ret (pe_cmpR (op_eqD hr.units) (pe_slice sl_tupQ (pv 9) (po_some pe_int) po_none) (pe_tup (pa_cons (pe_op op_fdiv (pv 6) pe_int) (pa_cons (pe_op op_add (pe_op op_mul pe_int (pv 7)) (pe_op op_mod (pv 6) pe_int)) (pa_cons (pe_call (ok_L_signs t) (hr.mono (by decide)) (by rfl) t.m_L_signs t.F_L_signs.kp t.b_L_signs .nil pass0 (pa_cons (pv 8) pa_nil)) pa_nil)))) (nomark _))))) pss_nil)
      (pss_cons (ps_if (pt_cmpR (op_inD (units65 hr)) (pe_tup (pa_cons (pv 6) (pa_cons (pe_dget2 (hu_of hr) (pe_callTy (T := "dict") (call_dictQ rfl) (by rfl) t.n_dict (by decide +kernel) (pa_cons (pv 8) pa_nil)) (pv 7) pe_int ⟨by rfl, by rfl, by rfl, by rfl⟩) pa_nil))) (pv 2) (by rfl)) (pss_one (ps_ret (pe_and (pe_cmpR op_eq (pe_ix ix_tup (pv 9) pe_int (fun _ _ => rfl)) pe_str (nomark _)) (pe_one (pe_cmpR op_eq (pe_op op_fdiv (pe_ix ix_tup (pv 9) pe_int (fun _ _ => rfl)) pe_int) (pe_op op_fdiv (pv 7) pe_int) (nomark _)))))) pss_nil)
      (pss_cons (ps_if (PW.pt (pw_or (pt_cmpR op_ne (pe_ix ix_tup (pv 9) pe_int (fun _ _ => rfl)) pe_str (nomark _)) (pw_or (pt_cmpR op_lt (pe_ix ix_tup (pv 9) pe_int (fun _ _ => rfl)) (pv 5) (nomark _)) (pw_or1 (pt_cmpR op_ne (pe_op op_fdiv (pe_ix ix_tup (pv 9) pe_int (fun _ _ => rfl)) pe_int) (pv 7) (nomark _)))))) (pss_one (ps_ret pe_bl)) pss_nil)
      (pss_cons (ps_setLc (i := 10) (own := [("_law_one", 11)]) (g := gName 11) rfl sc_L_walks.nd rfl rfl (sw_true rfl rfl rfl (by decide +kernel)) (pi_list (pe_call (ok_L_signs t) (hr.mono (by decide)) (by rfl) t.m_L_signs t.F_L_signs.kp t.b_L_signs .nil pass0 (pa_cons (pv 8) pa_nil))) (blkOk_by (N := N_L_walks) (sc := defScope s_L_walks) (by decide +kernel)) (fun _ _ _ _ _ => (pg_name (i := 11) sc_L_walks.nd rfl (by first | exact Or.inl rfl | exact Or.inr rfl))) (fun _ _ _ _ _ => (pts_one (pt_cmpR op_ne (pe_op op_fdiv (pe_ix (ixK (K := K) (r := rIxT) rfl ix_tup) (pv 11) pe_int (fun _ _ => rfl)) pe_int) (pv 7) (nomark _)))) (fun _ _ _ _ _ => (pv 11)))
      (pss_one (ps_ret (pe_cmpR (op_eqD hr.units) (pe_lc (own := [("_law_one", 11)]) (g := gName 11) rfl sc_L_walks.nd (pi_list (pe_ix ix_tup (pv 9) pe_int (fun _ _ => rfl))) (blkOk_by (N := N_L_walks) (sc := defScope s_L_walks) (by decide +kernel)) (fun _ _ _ _ _ => (pg_name (i := 11) sc_L_walks.nd rfl (by first | exact Or.inl rfl | exact Or.inr rfl))) (fun _ _ _ _ _ => (pts_one (pt_cmpR op_ne (pe_op op_fdiv (pe_ix (ixK (K := K) (r := rIxT) rfl ix_tup) (pv 11) pe_int (fun _ _ => rfl)) pe_int) (pv 7) (nomark _)))) (fun _ _ _ _ _ => (pv 11))) (pv 10) (nomark _)))))))))), ?_⟩
    have g0 : Gr mu0 F H F H := Gr.refl sF
    have hO := over_ok hM R2
    have bw := walk4 hM R2 n (W0 2) (W0 4) (W0_ok hM.r1 (by decide)) W0_wr
    refine ⟨_, rfl, _, rfl, F, tb, overM M R, 2 * R, 4, 2, n, rfl, sF, htb, hO, by decide, by decide, by omega, fun F1 H1 v2 l2 xs2 z2 Y2 eY2 g1 hv2 w2 al2 st2 => ?_⟩
    rw [eY2] at bw
    have k1 := g1.frz w2.h w2.n w2.f
    have hl2 : (upd F1 l2 (.lst xs2)) l2 = some (.lst xs2) := upd_same
    have s1 : Same F1 (upd F1 l2 (.lst xs2)) := sm_up w2.f
    have hv2' := s1 _ _ hv2
    have al2' := al2.up s1
    generalize upd F1 l2 (.lst xs2) = F2 at k1 hl2 s1 hv2' al2'
    clear g1 hv2 al2 w2
    refine ⟨v2, _, rfl, SqT.of (k1.fh _ _ hv2'), rfl, _, _, rfl, _, _, rfl, _, _, rfl, _, _, rfl, _, _, rfl, rfl, ?_⟩
    refine ⟨_, rfl, _, rfl, F2, m, M, R, 2, 4, n, rfl, k1.fh, hm.up k1.ff, hM, by decide, by decide, by omega, fun F3 H3 v4 l4 xs4 z4 Y4 eY4 g3 hv4 w4 al4 st4 => ?_⟩
    rw [eY4] at bw
    have k3 := (k1.trans g3).frz w4.h (k1.th _ w4.n) w4.f
    have hl4 : (upd F3 l4 (.lst xs4)) l4 = some (.lst xs4) := upd_same
    have s3 : Same F3 (upd F3 l4 (.lst xs4)) := sm_up w4.f
    have hv4' := s3 _ _ hv4
    have al4' := al4.up s3
    have s23 : Same F2 (upd F3 l4 (.lst xs4)) := fun c o h => s3 _ _ (g3.ff _ _ h)
    generalize upd F3 l4 (.lst xs4) = F4 at k3 hl4 s3 hv4' al4' s23
    have hl2' := s23 _ _ hl2
    have al2' := al2'.up s23
    clear g3 hv4 al4 w4
    have hz2 : Is F4 (.ref l2) z2 := ⟨l2, xs2, rfl, hl2', al2'⟩
    have hz4 : Is F4 (.ref l4) z4 := ⟨l4, xs4, rfl, hl4, al4'⟩
    have hst4 : Is F4 st (stayM M R) := hst.up k3.ff
    have U4 : ∀ G, Same F4 G → SqT K G v4 _ := fun G s => SqT.of (s _ _ hv4')
    have lx2 : xs2.length = z2.length := al2'.1
    have lx4 : xs4.length = z4.length := al4'.1
    have lz2 : z2.length ≤ 2000 := by
      have := st_len (M := overM M R) (R := 2 * R) (S := 4) (n := n) (by rw [eY2]; exact st2)
      omega
    have lsg := signs2_len z2
    have bw2 : ∀ y : Int, y = y := fun _ => rfl
    rcases bw with ⟨w, O, W, ok, wr, hw, eo, em⟩ | ⟨O, W, ok, wr, h, m2, a, es, eo, em⟩ | ⟨O, W, ok, wr, h, m2, m4, r, x, sx, a, es, ls, hx, le, eo, em⟩
    · -- on, or both stay
      have ss := signs2_gen (show IsSt z2 (fB 2 O.B) by rw [eo] at st2; exact st2) wr.B.rng
      have ez : z4 = signs2 z2 := (show IsSt z4 _ by
        rw [em] at st4
        have : IsSt z4 (fB 4 W.B) := st4
        rw [funext wr.B.fB] at this
        exact this).uniq ss
      obtain ⟨ep, er⟩ := plB_near wr
      have o1 : Y2.w = w := by rw [eo]
      have o2 : Y2.st = O.st := by rw [eo]
      have o3 : Y2.row = O.row := by rw [eo]
      have o4 : Y2.pl = plB 2 O := by rw [eo]
      have p1 : Y4.w = w := by rw [em]
      have p2 : Y4.st = W.st := by rw [em]
      have p3 : Y4.row = W.row := by rw [em]
      have p4 : Y4.pl = plB 4 W := by rw [em]
      have wst := wr.st
      refine ⟨_, rfl, rfl, _, rfl, ifT (by rw [o1]; exact w_ne w hw) ?_⟩
      refine ⟨_, rfl, v4, _, _, _, rfl, rfl, U4 _ k3.fh, atI_nat (j := 0) rfl, _, rfl, rfl, _, rfl, ifF (by rw [o1, p1, decide_eq_true rfl]; rfl) ?_⟩
      refine ⟨_, rfl, v4, _, _, _, rfl, rfl, U4 _ k3.fh, atI_nat (j := 1) rfl, _, rfl, _, _, rfl, rfl, _, rfl, ifF (decide_eq_false (by omega)) ?_⟩
      refine ⟨_, rfl, _, rfl, sl2n (U4 _ k3.fh) fun p1' n1 => ?_⟩
      have m1 := k3.own (o := .tup [.int Y4.row, .int Y4.pl, .ref l4]) n1
      have h1 : (upd H3 p1' (.tup [.int Y4.row, .int Y4.pl, .ref l4])) p1' = some (.tup [.int Y4.row, .int Y4.pl, .ref l4]) := upd_same
      generalize upd H3 p1' (.tup [.int Y4.row, .int Y4.pl, .ref l4]) = G1 at m1 h1 ⊢
      refine ⟨_, rfl, _, _, rfl, rfl, ⟨by decide, by decide⟩, _, rfl, _, _, rfl, rfl, .inl ⟨by decide, by decide⟩, _, rfl, _, _, rfl, rfl, (by show (0 : Int) < 2; decide), _, _, rfl, rfl, _, rfl, F4, .ref l2, z2, rfl, m1.fh, hz2, by omega, fun F5 G5 a5 xs5 g5 w5 al5 => ⟨three_le, fun u nu => ?_⟩⟩
      have m5 := m1.trans g5
      have h5 := g5.fr _ _ h1 (fun z => z)
      dsimp only at nu ⊢
      have m6 := m5.own (o := .tup [.int (Y2.row / 2), .int (2 * Y2.pl + Y2.row % 2), .ref a5]) nu
      have h6 := ln (u := .tup [.int (Y2.row / 2), .int (2 * Y2.pl + Y2.row % 2), .ref a5]) nu h5
      have w6 := w5.own (u := .tup [.int (Y2.row / 2), .int (2 * Y2.pl + Y2.row % 2), .ref a5]) nu
      refine eq_dat (a := (⟨Y4.row, Y4.pl, z4⟩ : T3 Int Int (List PI))) (b := ⟨Y2.row / 2, 2 * Y2.pl + Y2.row % 2, signs2 z2⟩) ⟨p1', _, _, _, rfl, h6, rfl, rfl, (hz4.up g5.ff).up m6.fh⟩ ⟨u, _, _, _, rfl, upd_same, rfl, rfl, a5, xs5, rfl, w6.h, al5.up m6.fh⟩ ?_
      rw [show decide ((⟨Y4.row, Y4.pl, z4⟩ : T3 Int Int (List PI)) = ⟨Y2.row / 2, 2 * Y2.pl + Y2.row % 2, signs2 z2⟩) = true from decide_eq_true (by rw [p3, p4, o3, o4, ep, er, ez])]
      exact q _ _ m6
    all_goals
      have rb := wr.B.upd O.at_ a.l0 a.l1 a.s0 a.s1
      have st2' : IsSt z2 (fB 2 (updB O.B O.at_ [pk h.h0, pk h.h1])) := by rw [eo] at st2; exact st2
      have ss := signs2_gen st2' rb.rng
      have o1 : Y2.w = tEnd := by rw [eo]
      have o2 : Y2.st = O.st + m2 := by rw [eo]
      have o3 : Y2.row = nearR h.row h.ri := by rw [eo]
      have o4 : Y2.pl = O.at_ * 2 + (if h.far then 1 else 0) := by rw [eo]
      have wst := wr.st
      have wat := wr.at_
      have eg : fB 2 (updB O.B O.at_ [pk h.h0, pk h.h1]) Y2.pl = pk h.it := by
        rw [o4]
        have e1 : (O.at_ * 2 + (if h.far then (1 : Int) else 0)) / ((2 : Nat) : Int) = O.at_ := by cases h.far <;> (show (O.at_ * 2 + _) / 2 = O.at_; omega)
        unfold fB updB
        rw [e1, if_pos rfl]
        obtain ⟨f, row, ri, h0, h1⟩ := h
        cases f
        · show (([pk h0, pk h1] : List Int)[((O.at_ * 2 + 0) % 2).toNat]?).getD 0 = pk h0
          rw [show (O.at_ * 2 + 0) % 2 = 0 by omega]; rfl
        · show (([pk h0, pk h1] : List Int)[((O.at_ * 2 + 1) % 2).toNat]?).getD 0 = pk h1
          rw [show (O.at_ * 2 + 1) % 2 = 1 by omega]; rfl
      refine ⟨_, rfl, rfl, _, rfl, ifF (by rw [o1]; decide +kernel) ?_⟩
      refine ⟨_, rfl, _, rfl, dict_pairs (K := K) (l := z2) (al2'.up k3.fh) (SqL.of (k3.fh _ _ hl2')) fun d nd => ?_⟩
      rw [show merge [] z2 = z2 from merge_nd (st_nd st2')]
      have m1 := k3.own (o := .dK (dI z2)) nd
      have hd : (upd H3 d (.dK (dI z2))) d = some (.dK (dI z2)) := upd_same
      generalize upd H3 d (.dK (dI z2)) = G1 at m1 hd ⊢
      refine ⟨d, rfl, .inl ⟨_, .inl hd⟩, _, rfl, _, DGet.k (k := Sum.inl Y2.pl) hd, ?_⟩
      rw [dI_val, look_st st2' Y2.pl, eg]
      refine ⟨two_le, fun p1' n1 => ?_⟩
      have m2' := m1.own (o := .tup [.int Y2.row, .int (pk h.it)]) n1
      have hp : (upd G1 p1' (.tup [.int Y2.row, .int (pk h.it)])) p1' = some (.tup [.int Y2.row, .int (pk h.it)]) := upd_same
      generalize upd G1 p1' (.tup [.int Y2.row, .int (pk h.it)]) = G2 at m2' hp ⊢
      have mem : (⟨Y2.row, pk h.it⟩ : PI) ∈ stayM M R ↔ isStay (thr M R 2 h.it h.row h.ri) = true := by
        rw [o3]; exact stay_at (M := M) a.it.1 a.it.2 a.r0 a.r1 h.ri
      rw [es] at mem
    · -- an entry in which the first one stays
      refine ⟨_, rfl, in_dat (α := PI) (x := ⟨Y2.row, pk h.it⟩) (l := stayM M R) ⟨p1', _, _, rfl, hp, rfl, rfl⟩ (hst4.up m2'.fh) (fun _ => ?_) (fun k => absurd (mem.mpr rfl) k)⟩
      have q1 : Y4.w = tStay := by rw [em]
      have q2 : Y4.pl = plB 4 W := by rw [em]
      refine ⟨_, rfl, ifT rfl ?_⟩
      refine ⟨_, rfl, v4, _, _, _, rfl, rfl, U4 _ m2'.fh, atI_nat (j := 0) rfl, rfl, _, rfl, ifT (by rw [q1]; decide +kernel) ?_⟩
      refine ⟨_, rfl, v4, _, _, _, rfl, rfl, U4 _ m2'.fh, atI_nat (j := 3) rfl, _, _, rfl, rfl, ⟨by decide, by decide⟩, _, rfl, _, _, rfl, rfl, ⟨by decide, by decide⟩, rfl, ?_⟩
      have e : decide (V.int (Y4.pl / 4) = V.int (Y2.pl / 2)) = true := by
        rw [int_eq2]
        refine decide_eq_true ?_
        rw [q2, o4, wat]
        unfold plB
        have h1 : (W.at_ * ((4 : Nat) : Int) + (if W.far then ((4 : Nat) : Int) - 1 else 0)) / 4 = W.at_ := by cases W.far <;> (show (W.at_ * 4 + _) / 4 = W.at_; omega)
        have h2 : (W.at_ * 2 + (if h.far then (1 : Int) else 0)) / 2 = W.at_ := by cases h.far <;> (show (W.at_ * 2 + _) / 2 = W.at_; omega)
        rw [h1, h2]
      have z := q F4 G2 m2'
      rw [← e] at z
      exact z
    · -- ended
      refine ⟨_, rfl, in_dat (α := PI) (x := ⟨Y2.row, pk h.it⟩) (l := stayM M R) ⟨p1', _, _, rfl, hp, rfl, rfl⟩ (hst4.up m2'.fh) (fun k => absurd (mem.mp k) (by decide)) (fun _ => ?_)⟩
      have q1 : Y4.w = tEnd := by rw [em]
      have q2 : Y4.st = W.st + m4 := by rw [em]
      have q3 : Y4.pl = W.at_ * 4 + ((if h.far then 2 else 0) + x) := by rw [em]
      have q4 : Y4.pl / 2 = Y2.pl := by
        rw [q3, o4, wat]
        cases h.far
        · show (W.at_ * 4 + (0 + x)) / 2 = W.at_ * 2 + 0; omega
        · show (W.at_ * 4 + (2 + x)) / 2 = W.at_ * 2 + 1; omega
      have st4' : IsSt z4 (fB 4 (updB W.B W.at_ (if h.far then h.h0 ++ sx else sx ++ h.h1))) := by rw [em] at st4; exact st4
      have ss4 : IsSt (signs2 z2) (fB 4 (updB W.B W.at_ (h.h0 ++ h.h1))) := by
        have e : fB 4 (updB W.B W.at_ (h.h0 ++ h.h1)) = fB 2 (fun x => sp2 (fB 2 (updB O.B O.at_ [pk h.h0, pk h.h1]) x)) := by
          rw [← wat]; exact funext rb.fB
        rw [e]; exact ss
      have eoff : offB Y2.pl z4 = offB Y2.pl (signs2 z2) := offB_gen ss4 st4' fun y hy => by
        unfold fB updB
        show (((if y / 4 = W.at_ then _ else W.B (y / 4)) : List Int)[(y % 4).toNat]?).getD 0 = (((if y / 4 = W.at_ then _ else W.B (y / 4)) : List Int)[(y % 4).toNat]?).getD 0
        by_cases k : y / 4 = W.at_
        · rw [if_pos k, if_pos k]
          rw [o4, wat] at hy
          obtain ⟨f, row, ri, h0, h1⟩ := h
          obtain ⟨x0, x1, rfl⟩ := two_of a.l0
          obtain ⟨y0, y1, rfl⟩ := two_of a.l1
          obtain ⟨z0, z1, rfl⟩ := two_of ls
          cases f with
          | false =>
            have hy : y / 2 ≠ W.at_ * 2 + 0 := hy
            have : y % 4 = 2 ∨ y % 4 = 3 := by omega
            rcases this with j | j <;> rw [j] <;> rfl
          | true =>
            have hy : y / 2 ≠ W.at_ * 2 + 1 := hy
            have : y % 4 = 0 ∨ y % 4 = 1 := by omega
            rcases this with j | j <;> rw [j] <;> rfl
        · rw [if_neg k, if_neg k]
      have lz4 := z_len eoff st4'.rise
      refine ⟨_, rfl, ifF rfl ?_⟩
      refine ⟨_, rfl, v4, _, _, _, rfl, rfl, U4 _ m2'.fh, atI_nat (j := 0) rfl, rfl, _, rfl, ifF (by rw [q1, w93.2.2.2.2.2]; rfl) ?_⟩
      refine ⟨_, rfl, v4, _, _, _, rfl, rfl, U4 _ m2'.fh, atI_nat (j := 1) rfl, _, rfl, _, _, rfl, rfl, _, rfl, ifF (decide_eq_false (by omega)) ?_⟩
      refine ⟨_, rfl, v4, _, _, _, rfl, rfl, U4 _ m2'.fh, atI_nat (j := 3) rfl, _, _, rfl, rfl, ⟨by decide, by decide⟩, _, rfl, rfl, _, rfl, ifF (by show (!decide (V.int (Y4.pl / 2) = V.int Y2.pl)) = false; rw [int_eq2, decide_eq_true q4]; rfl) ?_⟩
      refine ⟨_, rfl, F4, .ref l2, z2, rfl, m2'.fh, hz2, by omega, fun F8 G8 a8 xs8 g8 w8 al8 => ?_⟩
      have m8 := m2'.trans g8
      have lx8 : xs8.length = (signs2 z2).length := al8.1
      have h8 := w8.h
      refine ⟨a8, rfl, ⟨_, SqL.of h8⟩, fun D nD => lc_list (K := K) (a := a8) (xs := xs8) (fun i G' => ∃ ys : List V, Gr mu0 F H F8 G' ∧ Same G8 G' ∧ G8 D = none ∧ G' D = some (.lst ys) ∧ IsAll F8 ys (offB Y2.pl ((signs2 z2).take i)) ∧ ys.length ≤ i) ⟨[], m8.own nD, sm_up nD, nD, upd_same, All2.nil, Nat.le_refl 0⟩ (fun i G' _ ⟨_, _, s, _⟩ => SqL.of (s _ _ h8)) ?_ ?_⟩
      · rintro i y G' hi ⟨ys, g', s', nD, hD, al', ly⟩
        obtain ⟨q', hq', t', y1, y2, rfl, ht, d1, d2⟩ := al8.get' hi
        have d1 : y1 = .int q'.a := d1
        subst d1
        have il := (List.getElem?_eq_some_iff.mp hi).1
        have lx : (xs8).length ≤ 10000 := by omega
        refine ⟨rfl, _, rfl, t', _, _, _, rfl, rfl, SqT.of (g'.fh _ _ ht), atI_nat (j := 0) rfl, _, _, rfl, rfl, ⟨by decide, by decide⟩, _, rfl, rfl, _, rfl, ?_⟩
        have ec : (!decide (V.int (q'.a / 2) = V.int Y2.pl)) = (!decide (q'.a / 2 = Y2.pl)) := by rw [int_eq2]
        have eo : offB Y2.pl ((signs2 z2).take (i + 1)) = offB Y2.pl ((signs2 z2).take i) ++ if (!decide (q'.a / 2 = Y2.pl)) = true then [q'] else [] := by
          rw [List.take_add_one, hq']
          exact (List.filter_append ..).trans (congrArg _ (filter_1 _ _))
        by_cases z' : (!decide (q'.a / 2 = Y2.pl)) = true
        · refine ifT (ec.trans z') ⟨_, rfl, ys, hD, lt_size (by omega), ys ++ [.ref t'], g'.set (m8.fh.free nD) (.inl (m8.th _ nD)), fun c o h => by rw [upd_ne (ne_of_none h nD)]; exact s' _ _ h, nD, upd_same, ?_, by rw [List.length_append]; show _ + 1 ≤ _; omega⟩
          rw [eo, if_pos z']
          exact al'.app (All2.one ⟨t', _, _, rfl, ht, rfl, d2⟩)
        · refine ifF (ec.trans (Bool.eq_false_iff.mpr z')) ⟨ys, g', s', nD, hD, ?_, by omega⟩
          rw [eo, if_neg z', List.append_nil]
          exact al'
      rintro G9 ⟨ys9, m9, s9, nD9, hD9, al9, ly9⟩
      rw [lx8, List.take_length] at al9
      have sF9 : Same F4 G9 := fun c o h => m9.fh _ _ (g8.ff _ _ h)
      have al48 : IsAll F8 xs4 z4 := al4'.up g8.ff
      have htl9 := sF9 _ _ hl4
      refine ⟨_, rfl, v4, _, _, _, rfl, rfl, U4 _ sF9, atI_nat (j := 4) rfl, l4, rfl, ⟨_, SqL.of htl9⟩, fun D nD => lc_list (K := K) (a := l4) (xs := xs4) (fun i G' => ∃ ys : List V, Gr mu0 F H F8 G' ∧ Same G9 G' ∧ G9 D = none ∧ G' D = some (.lst ys) ∧ IsAll F8 ys (offB Y2.pl ((z4).take i)) ∧ ys.length ≤ i) ⟨[], m9.own nD, sm_up nD, nD, upd_same, All2.nil, Nat.le_refl 0⟩ (fun i G' _ ⟨_, _, s, _⟩ => SqL.of (s _ _ htl9)) ?_ ?_⟩
      · rintro i y G' hi ⟨ys, g', s', nD, hD, al', ly⟩
        obtain ⟨q', hq', t', y1, y2, rfl, ht, d1, d2⟩ := al48.get' hi
        have d1 : y1 = .int q'.a := d1
        subst d1
        have il := (List.getElem?_eq_some_iff.mp hi).1
        have lx : (xs4).length ≤ 10000 := by omega
        refine ⟨rfl, _, rfl, t', _, _, _, rfl, rfl, SqT.of (g'.fh _ _ ht), atI_nat (j := 0) rfl, _, _, rfl, rfl, ⟨by decide, by decide⟩, _, rfl, rfl, _, rfl, ?_⟩
        have ec : (!decide (V.int (q'.a / 2) = V.int Y2.pl)) = (!decide (q'.a / 2 = Y2.pl)) := by rw [int_eq2]
        have eo : offB Y2.pl ((z4).take (i + 1)) = offB Y2.pl ((z4).take i) ++ if (!decide (q'.a / 2 = Y2.pl)) = true then [q'] else [] := by
          rw [List.take_add_one, hq']
          exact (List.filter_append ..).trans (congrArg _ (filter_1 _ _))
        by_cases z' : (!decide (q'.a / 2 = Y2.pl)) = true
        · refine ifT (ec.trans z') ⟨_, rfl, ys, hD, lt_size (by omega), ys ++ [.ref t'], g'.set (m9.fh.free nD) (.inl (m9.th _ nD)), fun c o h => by rw [upd_ne (ne_of_none h nD)]; exact s' _ _ h, nD, upd_same, ?_, by rw [List.length_append]; show _ + 1 ≤ _; omega⟩
          rw [eo, if_pos z']
          exact al'.app (All2.one ⟨t', _, _, rfl, ht, rfl, d2⟩)
        · refine ifF (ec.trans (Bool.eq_false_iff.mpr z')) ⟨ys, g', s', nD, hD, ?_, by omega⟩
          rw [eo, if_neg z', List.append_nil]
          exact al'
      rintro GA ⟨ysA, mA, sA, nDA, hDA, alA, lyA⟩
      rw [lx4, List.take_length] at alA
      refine ⟨_, rfl, ?_⟩
      refine eq_dat (a := offB Y2.pl z4) (b := offB Y2.pl (signs2 z2)) ⟨_, ysA, rfl, hDA, alA.up mA.fh⟩ ⟨_, ys9, rfl, sA _ _ hD9, al9.up mA.fh⟩ ?_
      rw [show decide (offB Y2.pl z4 = offB Y2.pl (signs2 z2)) = true from decide_eq_true eoff]
      exact q _ _ mA
def sp_law (K : PySem.W.Frag) : Sp := fun vs H Q _ => ∃ (a : Addr) (ns : List Int), vs = [.ref a] ∧ SqL K H a (ns.map V.int) ∧ ns.length ≤ 63 ∧ ∀ H', Q (.bl true) H'
theorem ok_law (t : Tx K mg) : FnOk P w K mg base CX0 7 t.a_law t.fd_law ["_law_script"] (sp_law K) := by
  refine t.F_law.ok sc_law (fun vs H Q E h => ?_) (fun cdv A outer s H vs Q E hr h => ?_)
  · obtain ⟨a, ns, rfl, _⟩ := h
    rfl
  · obtain ⟨a, ns, rfl, hS, hn, q⟩ := h
    refine ⟨_, (pss_cons (ps_set (i := 1) sc_law.nd rfl (by first | exact Or.inl rfl | exact Or.inr rfl) (pe_call (ok_L_purse t) (hr.mono (by decide)) (by rfl) t.m_L_purse t.F_L_purse.kp t.b_L_purse .nil pass0 (pa_cons (pv 0) pa_nil)))
      (pss_cons (ps_set (i := 2) sc_law.nd rfl (by first | exact Or.inl rfl | exact Or.inr rfl) (pe_call (ok_L_small t) (hr.mono (by decide)) (by rfl) t.m_L_small t.F_L_small.kp t.b_L_small .nil pass0 (pa_cons (pv 1) pa_nil)))
      (pss_cons (ps_asg (pe_call (ok_over_blocks t) (hr.mono (by decide)) (by rfl) t.m_over_blocks t.F_over_blocks.kp t.b_over_blocks .nil pass0 (pa_cons (pv 2) pa_nil)) (pg_tup rfl (pgs_cons (pg_name (i := 3) sc_law.nd rfl (by first | exact Or.inl rfl | exact Or.inr rfl)) (pgs_cons (pg_name (i := 4) sc_law.nd rfl (by first | exact Or.inl rfl | exact Or.inr rfl)) pgs_nil))))
      (pss_cons (ps_for PassesOwn.never rfl (pi_range1 (by rfl) t.n_range (pa_cons pe_int pa_nil)) (pg_name (i := 5) sc_law.nd rfl (by first | exact Or.inl rfl | exact Or.inr rfl)) (pss_one (ps_for PassesOwn.never rfl (pi_range1 (by rfl) t.n_range (pa_cons (pe_callB (id := "len") call_lenQ (by rfl) t.n_len (by decide +kernel) (pa_cons (pv 2) pa_nil)) pa_nil)) (pg_name (i := 6) sc_law.nd rfl (by first | exact Or.inl rfl | exact Or.inr rfl)) (pss_one (ps_for PassesOwn.never rfl (pi_list (pe_lst (pa_cons (pe_un un_neg pe_int) (pa_cons pe_int pa_nil)))) (pg_name (i := 7) sc_law.nd rfl (by first | exact Or.inl rfl | exact Or.inr rfl)) (pss_one (ps_if (pt_not (pt_val (pe_call (ok_L_blocks t) (hr.mono (by decide)) (by rfl) t.m_L_blocks t.F_L_blocks.kp t.b_L_blocks .nil pass0 (pa_cons (pv 2) (pa_cons (pv 3) (pa_cons (pv 4) (pa_cons (pv 6) (pa_cons (pv 7) (pa_cons (pv 5) pa_nil))))))))) (pss_one (ps_ret pe_bl)) pss_nil)))))))
      (pss_cons (ps_for PassesOwn.never rfl (pi_list (pe_lst (pa_cons pe_int (pa_cons pe_int (pa_cons (pe_call (ok_L_draw t) (hr.mono (by decide)) (by rfl) t.m_L_draw t.F_L_draw.kp t.b_L_draw .nil pass0 (pa_cons (pv 1) (pa_cons pe_int pa_nil))) (pa_cons (pe_op op_add pe_int (pe_call (ok_L_draw t) (hr.mono (by decide)) (by rfl) t.m_L_draw t.F_L_draw.kp t.b_L_draw .nil pass0 (pa_cons (pv 1) (pa_cons pe_int pa_nil)))) pa_nil)))))) (pg_name (i := 8) sc_law.nd rfl (by first | exact Or.inl rfl | exact Or.inr rfl)) (pss_one (ps_if (pt_not (pt_val (pe_call (ok_L_walks t) (hr.mono (by decide)) (by rfl) t.m_L_walks t.F_L_walks.kp t.b_L_walks .nil pass0 (pa_cons (pv 2) (pa_cons (pv 3) (pa_cons (pv 4) (pa_cons (pv 8) pa_nil))))))) (pss_one (ps_ret pe_bl)) pss_nil)))
      (pss_one (ps_ret pe_bl))))))), ?_⟩
    refine ⟨_, rfl, a, ns, rfl, hS, hn, fun a0 b0 p H1 ha0 hb0 s1 np hp1 => ?_⟩
    refine ⟨_, rfl, H, p, a0, b0, rfl, s1, np, hp1, ha0, hb0, fun F2 H2 v M R a1 b1 g2 hp2 ha1 hb1 hM R2 hv => ?_⟩
    refine ⟨_, rfl, F2, v, M, R, rfl, g2.fh, hv, hM, R2, fun F4 H4 u tb st rs ess ys g4 nu hu xt wst alst o1 o2 => ?_⟩
    refine ⟨u, _, rfl, SqT.of (g4.fh _ _ hu), rfl, _, _, rfl, _, _, rfl, rfl, ?_⟩
    obtain ⟨F5, k5, s5, htb, hoff, _⟩ := xt.frz g4
    have k6 := k5.frz wst.h wst.n (by rw [hoff st o1 o2]; exact wst.f)
    have hst : Is (upd F5 st (.lst ys)) (.ref st) (stayM M R) := ⟨st, ys, rfl, upd_same, (alst.up s5).up (sm_up (by rw [hoff st o1 o2]; exact wst.f))⟩
    have htb6 := htb.up (sm_up (by rw [hoff st o1 o2]; exact wst.f) : Same F5 (upd F5 st (.lst ys)))
    generalize upd F5 st (.lst ys) = F6 at k6 hst htb6
    have t6 := g2.trans k6.of0
    have hp6 := k6.fr _ _ hp2 (fun z => z)
    have hv6 : Is F6 v M := hv.up k6.ff
    clear k5 k6 g4 xt wst alst hu htb
    obtain ⟨am, rm, rfl, ham, hrm⟩ := id hv6
    have lrm : rm.length = R := hrm.1.trans hM.len
    refine ⟨16, rfl, by decide, by decide, for_range (lo := 0) (n := 16) (fun i σ G => ∃ (F : Hp) (v5 v6 v7 : Option V), σ = [some (.ref a), some (.ref p), some (.ref am), some (.ref tb), some (.ref st), v5, v6, v7, none] ∧ Gr (muP p) H H1 F G ∧ Same F6 F ∧ G p = some (PurseO a1 b1)) ⟨F6, none, none, none, rfl, t6, Same.refl F6, hp6⟩ ?_ ?_⟩
    · rintro i σ G hi ⟨F, v5, v6, v7, rfl, g, sF, hpG⟩
      have hi : i < 16 := hi
      refine ⟨_, rfl, am, _, rfl, .inl (SqL.of (g.fh _ _ (sF _ _ ham))), _, rfl, by omega, by omega, for_range (lo := 0) (n := ((rm.length : Int)).toNat) (fun j σ G => ∃ (F : Hp) (v6 v7 : Option V), σ = [some (.ref a), some (.ref p), some (.ref am), some (.ref tb), some (.ref st), some (.int (0 + (i : Int))), v6, v7, none] ∧ Gr (muP p) H H1 F G ∧ Same F6 F ∧ G p = some (PurseO a1 b1)) ⟨F, v6, v7, rfl, g, sF, hpG⟩ ?_ ?_⟩
      · rintro j σ G hj ⟨F, v6, v7, rfl, g, sF, hpG⟩
        have hj : j < R := by omega
        refine ⟨_, rfl, two_le, fun l nl => ?_⟩
        have g4 := g.new (o := .lst [.int (-1), .int 1]) nl
        have hl : (upd F l (.lst [.int (-1), .int 1])) l = some (.lst [.int (-1), .int 1]) := upd_same
        have sF4 : Same F6 (upd F l (.lst [.int (-1), .int 1])) := fun c o h => (sm_up (g.fh.free nl) : Same F _) _ _ (sF _ _ h)
        have hp4 := ln (u := .lst [.int (-1), .int 1]) nl hpG
        generalize upd F l (.lst [.int (-1), .int 1]) = FL at g4 hl sF4
        generalize upd G l (.lst [.int (-1), .int 1]) = G4 at g4 hp4 ⊢
        refine ⟨l, rfl, ⟨_, SqL.of (g4.fh _ _ hl)⟩, for_list (K := K) (a := l) (xs := [.int (-1), .int 1]) (fun e σ G => ∃ (F : Hp) (v7 : Option V), σ = [some (.ref a), some (.ref p), some (.ref am), some (.ref tb), some (.ref st), some (.int (0 + (i : Int))), some (.int (0 + (j : Int))), v7, none] ∧ Gr (muP p) H H1 F G ∧ Same FL F ∧ G p = some (PurseO a1 b1)) ⟨FL, v7, rfl, g4, Same.refl FL, hp4⟩ (fun e σ G _ ⟨F, _, _, g, s, _⟩ => SqL.of (g.fh _ _ (s _ _ hl))) ?_ ?_⟩
        · rintro e y σ G he ⟨F, v7, rfl, g, sL, hpG⟩
          obtain ⟨side, rfl, hs⟩ : ∃ side : Int, y = .int side ∧ (side = -1 ∨ side = 1) := by
            match e, he with
            | 0, he => cases he; exact ⟨-1, rfl, .inl rfl⟩
            | 1, he => cases he; exact ⟨1, rfl, .inr rfl⟩
          have sF : Same F6 F := fun c o h => sL _ _ (sF4 _ _ h)
          refine ⟨_, rfl, _, rfl, _, rfl, _, rfl, _, rfl, _, rfl, F, .ref am, .ref tb, .ref st, M, R, 0 + (j : Int), side, i, by rw [Int.zero_add (i : Int)]; rfl, g.fh, hv6.up sF, htb6.up sF, hst.up sF, hM, R2, by omega, by omega, hs, hi, fun F' G' g' => ⟨_, rfl, ifF rfl ?_⟩⟩
          exact ⟨F', _, rfl, g.trans g'.of0, fun c o h => g'.ff _ _ (sL _ _ h), g'.fr _ _ hpG (fun z => z)⟩
        · rintro σ G ⟨F, v7, rfl, g, sL, hpG⟩
          exact ⟨F, _, _, rfl, g, fun c o h => sL _ _ (sF4 _ _ h), hpG⟩
      · rintro σ G ⟨F, v6, v7, rfl, g, sF, hpG⟩
        exact ⟨F, _, _, _, rfl, g, sF, hpG⟩
    · rintro σ G ⟨F, v5, v6, v7, rfl, g, sF, hpG⟩
      have pfF := g.pf0 np hp1
      refine ⟨_, rfl, p, a1, b1, 10, rfl, hpG, ha1, hb1, by decide, by decide, fun d1 a2 b2 d10 d11 ha2 hb2 => ?_⟩
      have t7 := g.set (o := PurseO a2 b2) pfF (.inr rfl)
      have hp7 : (upd G p (PurseO a2 b2)) p = some (PurseO a2 b2) := upd_same
      generalize upd G p (PurseO a2 b2) = H7 at t7 hp7 ⊢
      refine ⟨_, rfl, p, a2, b2, 66, rfl, hp7, ha2, hb2, by decide, by decide, fun d2 a3 b3 d20 d21 ha3 hb3 => ?_⟩
      have t8 := t7.set (o := PurseO a3 b3) pfF (.inr rfl)
      generalize upd H7 p (PurseO a3 b3) = H8 at t8 ⊢
      refine ⟨_, _, rfl, rfl, le_size (n := 4) (by decide), fun L nL => ?_⟩
      have t9 := t8.new (o := .lst [.int 0, .int 1, .int d1, .int (10 + d2)]) nL
      have hL : (upd F L (.lst [.int 0, .int 1, .int d1, .int (10 + d2)])) L = some (.lst [.int 0, .int 1, .int d1, .int (10 + d2)]) := upd_same
      have sL : Same F6 (upd F L (.lst [.int 0, .int 1, .int d1, .int (10 + d2)])) := fun c o h => (sm_up (t8.fh.free nL) : Same F _) _ _ (sF _ _ h)
      generalize upd F L (.lst [.int 0, .int 1, .int d1, .int (10 + d2)]) = FL at t9 hL sL
      generalize upd H8 L (.lst [.int 0, .int 1, .int d1, .int (10 + d2)]) = HL at t9 ⊢
      refine ⟨L, rfl, ⟨_, SqL.of (t9.fh _ _ hL)⟩, for_list (K := K) (a := L) (xs := [.int 0, .int 1, .int d1, .int (10 + d2)]) (fun i σ G => ∃ (F : Hp) (v8 : Option V), σ = [some (.ref a), some (.ref p), some (.ref am), some (.ref tb), some (.ref st), v5, v6, v7, v8] ∧ Gr (muP p) H H1 F G ∧ Same FL F) ⟨FL, none, rfl, t9, Same.refl FL⟩ (fun i σ G _ ⟨F, _, _, g, s⟩ => SqL.of (g.fh _ _ (s _ _ hL))) ?_ ?_⟩
      · rintro i y σ G hi ⟨F, v8, rfl, g, sF⟩
        obtain ⟨n, rfl, n60⟩ : ∃ n : Nat, y = .int n ∧ n ≤ 100 := by
          match i, hi with
          | 0, hi => cases hi; exact ⟨0, rfl, by decide⟩
          | 1, hi => cases hi; exact ⟨1, rfl, by decide⟩
          | 2, hi => cases hi; exact ⟨d1.toNat, by rw [Int.toNat_of_nonneg d10], by omega⟩
          | 3, hi => cases hi; exact ⟨(10 + d2).toNat, by rw [Int.toNat_of_nonneg (by omega)], by omega⟩
        have s6 : Same F6 F := fun c o h => sF _ _ (sL _ _ h)
        refine ⟨_, rfl, _, rfl, _, rfl, _, rfl, F, .ref am, .ref tb, .ref st, M, R, n, rfl, g.fh, hv6.up s6, htb6.up s6, hst.up s6, hM, R2, n60, fun F' G' g' => ⟨_, rfl, ifF rfl ?_⟩⟩
        exact ⟨F', _, rfl, g.trans g'.of0, fun c o h => g'.ff _ _ (sF _ _ h)⟩
      · rintro σ G _
        exact q _

end
def all_tx {K : PySem.W.Frag} {h : Heap} {mg : Str → Option Value} {a_L_mixed a_L_purse a_L_draw a_L_small a_is_entry a_is_machine a_must_machine a_must_blocks a_most_setups a_through a_near_row a_entry_over a_over_blocks a_Walk_init a_Walk_out a_Walk_place a_Walk_strip a_Walk_block a_by_blocks a_L_signs a_L_walks a_L_parted a_L_spread a_L_blocks a_law C_NoMachine C_NoSize C_Walk : Addr} {od_L_mixed an_L_mixed od_L_purse an_L_purse od_L_draw an_L_draw od_L_small an_L_small od_is_entry an_is_entry od_is_machine an_is_machine od_must_machine an_must_machine od_must_blocks an_must_blocks od_most_setups an_most_setups od_through an_through od_near_row an_near_row od_entry_over an_entry_over od_over_blocks an_over_blocks od_Walk_init an_Walk_init od_Walk_out an_Walk_out od_Walk_place an_Walk_place od_Walk_strip an_Walk_strip od_Walk_block an_Walk_block od_by_blocks an_by_blocks od_L_signs an_L_signs od_L_walks an_L_walks od_L_parted an_L_parted od_L_spread an_L_spread od_L_blocks an_L_blocks od_law an_law : Option Addr} {sl_L_mixed sl_L_purse sl_L_draw sl_L_small sl_is_entry sl_is_machine sl_must_machine sl_must_blocks sl_most_setups sl_through sl_near_row sl_entry_over sl_over_blocks sl_Walk_init sl_Walk_out sl_Walk_place sl_Walk_strip sl_Walk_block sl_by_blocks sl_L_signs sl_L_walks sl_L_parted sl_L_spread sl_L_blocks sl_law : Array (Option Value)} {oc_L_mixed kV_L_mixed dc_L_mixed pm_L_mixed cd_L_mixed ct_L_mixed oc_L_purse kV_L_purse dc_L_purse pm_L_purse cd_L_purse ct_L_purse oc_L_draw kV_L_draw dc_L_draw pm_L_draw cd_L_draw ct_L_draw oc_L_small kV_L_small dc_L_small pm_L_small cd_L_small ct_L_small oc_is_entry kV_is_entry dc_is_entry pm_is_entry cd_is_entry ct_is_entry oc_is_machine kV_is_machine dc_is_machine pm_is_machine cd_is_machine ct_is_machine oc_must_machine kV_must_machine dc_must_machine pm_must_machine cd_must_machine ct_must_machine oc_must_blocks kV_must_blocks dc_must_blocks pm_must_blocks cd_must_blocks ct_must_blocks oc_most_setups kV_most_setups dc_most_setups pm_most_setups cd_most_setups ct_most_setups oc_through kV_through dc_through pm_through cd_through ct_through oc_near_row kV_near_row dc_near_row pm_near_row cd_near_row ct_near_row oc_entry_over kV_entry_over dc_entry_over pm_entry_over cd_entry_over ct_entry_over oc_over_blocks kV_over_blocks dc_over_blocks pm_over_blocks cd_over_blocks ct_over_blocks oc_Walk_init kV_Walk_init dc_Walk_init pm_Walk_init cd_Walk_init ct_Walk_init oc_Walk_out kV_Walk_out dc_Walk_out pm_Walk_out cd_Walk_out ct_Walk_out oc_Walk_place kV_Walk_place dc_Walk_place pm_Walk_place cd_Walk_place ct_Walk_place oc_Walk_strip kV_Walk_strip dc_Walk_strip pm_Walk_strip cd_Walk_strip ct_Walk_strip oc_Walk_block kV_Walk_block dc_Walk_block pm_Walk_block cd_Walk_block ct_Walk_block oc_by_blocks kV_by_blocks dc_by_blocks pm_by_blocks cd_by_blocks ct_by_blocks oc_L_signs kV_L_signs dc_L_signs pm_L_signs cd_L_signs ct_L_signs oc_L_walks kV_L_walks dc_L_walks pm_L_walks cd_L_walks ct_L_walks oc_L_parted kV_L_parted dc_L_parted pm_L_parted cd_L_parted ct_L_parted oc_L_spread kV_L_spread dc_L_spread pm_L_spread cd_L_spread ct_L_spread oc_L_blocks kV_L_blocks dc_L_blocks pm_L_blocks cd_L_blocks ct_L_blocks oc_law kV_law dc_law pm_law cd_law ct_law : Value} {tk_MOST_ROWS_machines tk_MOST_SIGNS tk_MOST_ROWS_blocked tk_BLOCK_SIGNS : Tok} (X : K.In h) (G : h.Ns mainGlobals mg)
    (n_NoMachine : PySem.W.nsIn K mainGlobals "NoMachine" = some (some (.ref C_NoMachine)))
    (n_NoSize : PySem.W.nsIn K mainGlobals "NoSize" = some (some (.ref C_NoSize)))
    (n_Walk : PySem.W.nsIn K mainGlobals "Walk" = some (some (.ref C_Walk)))
    (n_L_mixed : PySem.W.nsIn K mainGlobals "_law_mixed" = some (some (.ref a_L_mixed)))
    (l_L_mixed : K.lookup a_L_mixed = some ⟨oc_L_mixed, od_L_mixed, .func (PySem.W.fnOf "_law_mixed" "_law_mixed" (defArgs s_L_mixed) (defBody s_L_mixed) (defScope s_L_mixed) .none kV_L_mixed dc_L_mixed pm_L_mixed an_L_mixed cd_L_mixed ct_L_mixed), sl_L_mixed⟩)
    (c_L_mixed : PySem.W.codeIn K cd_L_mixed "_law_mixed" = true)
    (k_L_mixed : PySem.W.keepIn K (.ref a_L_mixed) = true)
    (n_L_purse : PySem.W.nsIn K mainGlobals "_law_purse" = some (some (.ref a_L_purse)))
    (l_L_purse : K.lookup a_L_purse = some ⟨oc_L_purse, od_L_purse, .func (PySem.W.fnOf "_law_purse" "_law_purse" (defArgs s_L_purse) (defBody s_L_purse) (defScope s_L_purse) .none kV_L_purse dc_L_purse pm_L_purse an_L_purse cd_L_purse ct_L_purse), sl_L_purse⟩)
    (c_L_purse : PySem.W.codeIn K cd_L_purse "_law_purse" = true)
    (k_L_purse : PySem.W.keepIn K (.ref a_L_purse) = true)
    (n_L_draw : PySem.W.nsIn K mainGlobals "_law_draw" = some (some (.ref a_L_draw)))
    (l_L_draw : K.lookup a_L_draw = some ⟨oc_L_draw, od_L_draw, .func (PySem.W.fnOf "_law_draw" "_law_draw" (defArgs s_L_draw) (defBody s_L_draw) (defScope s_L_draw) .none kV_L_draw dc_L_draw pm_L_draw an_L_draw cd_L_draw ct_L_draw), sl_L_draw⟩)
    (c_L_draw : PySem.W.codeIn K cd_L_draw "_law_draw" = true)
    (k_L_draw : PySem.W.keepIn K (.ref a_L_draw) = true)
    (n_L_small : PySem.W.nsIn K mainGlobals "_law_small" = some (some (.ref a_L_small)))
    (l_L_small : K.lookup a_L_small = some ⟨oc_L_small, od_L_small, .func (PySem.W.fnOf "_law_small" "_law_small" (defArgs s_L_small) (defBody s_L_small) (defScope s_L_small) .none kV_L_small dc_L_small pm_L_small an_L_small cd_L_small ct_L_small), sl_L_small⟩)
    (c_L_small : PySem.W.codeIn K cd_L_small "_law_small" = true)
    (k_L_small : PySem.W.keepIn K (.ref a_L_small) = true)
    (n_is_entry : PySem.W.nsIn K mainGlobals "is_entry" = some (some (.ref a_is_entry)))
    (l_is_entry : K.lookup a_is_entry = some ⟨oc_is_entry, od_is_entry, .func (PySem.W.fnOf "is_entry" "is_entry" (defArgs s_is_entry) (defBody s_is_entry) (defScope s_is_entry) .none kV_is_entry dc_is_entry pm_is_entry an_is_entry cd_is_entry ct_is_entry), sl_is_entry⟩)
    (c_is_entry : PySem.W.codeIn K cd_is_entry "is_entry" = true)
    (k_is_entry : PySem.W.keepIn K (.ref a_is_entry) = true)
    (n_is_machine : PySem.W.nsIn K mainGlobals "is_machine" = some (some (.ref a_is_machine)))
    (l_is_machine : K.lookup a_is_machine = some ⟨oc_is_machine, od_is_machine, .func (PySem.W.fnOf "is_machine" "is_machine" (defArgs s_is_machine) (defBody s_is_machine) (defScope s_is_machine) .none kV_is_machine dc_is_machine pm_is_machine an_is_machine cd_is_machine ct_is_machine), sl_is_machine⟩)
    (c_is_machine : PySem.W.codeIn K cd_is_machine "is_machine" = true)
    (k_is_machine : PySem.W.keepIn K (.ref a_is_machine) = true)
    (n_must_machine : PySem.W.nsIn K mainGlobals "must_machine" = some (some (.ref a_must_machine)))
    (l_must_machine : K.lookup a_must_machine = some ⟨oc_must_machine, od_must_machine, .func (PySem.W.fnOf "must_machine" "must_machine" (defArgs s_must_machine) (defBody s_must_machine) (defScope s_must_machine) .none kV_must_machine dc_must_machine pm_must_machine an_must_machine cd_must_machine ct_must_machine), sl_must_machine⟩)
    (c_must_machine : PySem.W.codeIn K cd_must_machine "must_machine" = true)
    (k_must_machine : PySem.W.keepIn K (.ref a_must_machine) = true)
    (n_must_blocks : PySem.W.nsIn K mainGlobals "must_blocks" = some (some (.ref a_must_blocks)))
    (l_must_blocks : K.lookup a_must_blocks = some ⟨oc_must_blocks, od_must_blocks, .func (PySem.W.fnOf "must_blocks" "must_blocks" (defArgs s_must_blocks) (defBody s_must_blocks) (defScope s_must_blocks) .none kV_must_blocks dc_must_blocks pm_must_blocks an_must_blocks cd_must_blocks ct_must_blocks), sl_must_blocks⟩)
    (c_must_blocks : PySem.W.codeIn K cd_must_blocks "must_blocks" = true)
    (k_must_blocks : PySem.W.keepIn K (.ref a_must_blocks) = true)
    (n_most_setups : PySem.W.nsIn K mainGlobals "most_setups" = some (some (.ref a_most_setups)))
    (l_most_setups : K.lookup a_most_setups = some ⟨oc_most_setups, od_most_setups, .func (PySem.W.fnOf "most_setups" "most_setups" (defArgs s_most_setups) (defBody s_most_setups) (defScope s_most_setups) .none kV_most_setups dc_most_setups pm_most_setups an_most_setups cd_most_setups ct_most_setups), sl_most_setups⟩)
    (c_most_setups : PySem.W.codeIn K cd_most_setups "most_setups" = true)
    (k_most_setups : PySem.W.keepIn K (.ref a_most_setups) = true)
    (n_through : PySem.W.nsIn K mainGlobals "through" = some (some (.ref a_through)))
    (l_through : K.lookup a_through = some ⟨oc_through, od_through, .func (PySem.W.fnOf "through" "through" (defArgs s_through) (defBody s_through) (defScope s_through) .none kV_through dc_through pm_through an_through cd_through ct_through), sl_through⟩)
    (c_through : PySem.W.codeIn K cd_through "through" = true)
    (k_through : PySem.W.keepIn K (.ref a_through) = true)
    (n_near_row : PySem.W.nsIn K mainGlobals "near_row" = some (some (.ref a_near_row)))
    (l_near_row : K.lookup a_near_row = some ⟨oc_near_row, od_near_row, .func (PySem.W.fnOf "near_row" "near_row" (defArgs s_near_row) (defBody s_near_row) (defScope s_near_row) .none kV_near_row dc_near_row pm_near_row an_near_row cd_near_row ct_near_row), sl_near_row⟩)
    (c_near_row : PySem.W.codeIn K cd_near_row "near_row" = true)
    (k_near_row : PySem.W.keepIn K (.ref a_near_row) = true)
    (n_entry_over : PySem.W.nsIn K mainGlobals "entry_over" = some (some (.ref a_entry_over)))
    (l_entry_over : K.lookup a_entry_over = some ⟨oc_entry_over, od_entry_over, .func (PySem.W.fnOf "entry_over" "entry_over" (defArgs s_entry_over) (defBody s_entry_over) (defScope s_entry_over) .none kV_entry_over dc_entry_over pm_entry_over an_entry_over cd_entry_over ct_entry_over), sl_entry_over⟩)
    (c_entry_over : PySem.W.codeIn K cd_entry_over "entry_over" = true)
    (k_entry_over : PySem.W.keepIn K (.ref a_entry_over) = true)
    (n_over_blocks : PySem.W.nsIn K mainGlobals "over_blocks" = some (some (.ref a_over_blocks)))
    (l_over_blocks : K.lookup a_over_blocks = some ⟨oc_over_blocks, od_over_blocks, .func (PySem.W.fnOf "over_blocks" "over_blocks" (defArgs s_over_blocks) (defBody s_over_blocks) (defScope s_over_blocks) .none kV_over_blocks dc_over_blocks pm_over_blocks an_over_blocks cd_over_blocks ct_over_blocks), sl_over_blocks⟩)
    (c_over_blocks : PySem.W.codeIn K cd_over_blocks "over_blocks" = true)
    (k_over_blocks : PySem.W.keepIn K (.ref a_over_blocks) = true)
    (n_Walk_init : PySem.W.findIn K (.ref C_Walk) "__init__" = some (some (.ref a_Walk_init)))
    (i_Walk_init : PySem.W.isFn K (.ref a_Walk_init) = true)
    (l_Walk_init : K.lookup a_Walk_init = some ⟨oc_Walk_init, od_Walk_init, .func (PySem.W.fnOf "__init__" "Walk.__init__" (defArgs s_Walk_init) (defBody s_Walk_init) (defScope s_Walk_init) .none kV_Walk_init dc_Walk_init pm_Walk_init an_Walk_init cd_Walk_init ct_Walk_init), sl_Walk_init⟩)
    (c_Walk_init : PySem.W.codeIn K cd_Walk_init "Walk.__init__" = true)
    (k_Walk_init : PySem.W.keepIn K (.ref a_Walk_init) = true)
    (n_Walk_out : PySem.W.findIn K (.ref C_Walk) "out" = some (some (.ref a_Walk_out)))
    (i_Walk_out : PySem.W.isFn K (.ref a_Walk_out) = true)
    (l_Walk_out : K.lookup a_Walk_out = some ⟨oc_Walk_out, od_Walk_out, .func (PySem.W.fnOf "out" "Walk.out" (defArgs s_Walk_out) (defBody s_Walk_out) (defScope s_Walk_out) .none kV_Walk_out dc_Walk_out pm_Walk_out an_Walk_out cd_Walk_out ct_Walk_out), sl_Walk_out⟩)
    (c_Walk_out : PySem.W.codeIn K cd_Walk_out "Walk.out" = true)
    (k_Walk_out : PySem.W.keepIn K (.ref a_Walk_out) = true)
    (n_Walk_place : PySem.W.findIn K (.ref C_Walk) "place" = some (some (.ref a_Walk_place)))
    (i_Walk_place : PySem.W.isFn K (.ref a_Walk_place) = true)
    (l_Walk_place : K.lookup a_Walk_place = some ⟨oc_Walk_place, od_Walk_place, .func (PySem.W.fnOf "place" "Walk.place" (defArgs s_Walk_place) (defBody s_Walk_place) (defScope s_Walk_place) .none kV_Walk_place dc_Walk_place pm_Walk_place an_Walk_place cd_Walk_place ct_Walk_place), sl_Walk_place⟩)
    (c_Walk_place : PySem.W.codeIn K cd_Walk_place "Walk.place" = true)
    (k_Walk_place : PySem.W.keepIn K (.ref a_Walk_place) = true)
    (n_Walk_strip : PySem.W.findIn K (.ref C_Walk) "strip" = some (some (.ref a_Walk_strip)))
    (i_Walk_strip : PySem.W.isFn K (.ref a_Walk_strip) = true)
    (l_Walk_strip : K.lookup a_Walk_strip = some ⟨oc_Walk_strip, od_Walk_strip, .func (PySem.W.fnOf "strip" "Walk.strip" (defArgs s_Walk_strip) (defBody s_Walk_strip) (defScope s_Walk_strip) .none kV_Walk_strip dc_Walk_strip pm_Walk_strip an_Walk_strip cd_Walk_strip ct_Walk_strip), sl_Walk_strip⟩)
    (c_Walk_strip : PySem.W.codeIn K cd_Walk_strip "Walk.strip" = true)
    (k_Walk_strip : PySem.W.keepIn K (.ref a_Walk_strip) = true)
    (n_Walk_block : PySem.W.findIn K (.ref C_Walk) "block" = some (some (.ref a_Walk_block)))
    (i_Walk_block : PySem.W.isFn K (.ref a_Walk_block) = true)
    (l_Walk_block : K.lookup a_Walk_block = some ⟨oc_Walk_block, od_Walk_block, .func (PySem.W.fnOf "block" "Walk.block" (defArgs s_Walk_block) (defBody s_Walk_block) (defScope s_Walk_block) .none kV_Walk_block dc_Walk_block pm_Walk_block an_Walk_block cd_Walk_block ct_Walk_block), sl_Walk_block⟩)
    (c_Walk_block : PySem.W.codeIn K cd_Walk_block "Walk.block" = true)
    (k_Walk_block : PySem.W.keepIn K (.ref a_Walk_block) = true)
    (n_by_blocks : PySem.W.nsIn K mainGlobals "by_blocks" = some (some (.ref a_by_blocks)))
    (l_by_blocks : K.lookup a_by_blocks = some ⟨oc_by_blocks, od_by_blocks, .func (PySem.W.fnOf "by_blocks" "by_blocks" (defArgs s_by_blocks) (defBody s_by_blocks) (defScope s_by_blocks) .none kV_by_blocks dc_by_blocks pm_by_blocks an_by_blocks cd_by_blocks ct_by_blocks), sl_by_blocks⟩)
    (c_by_blocks : PySem.W.codeIn K cd_by_blocks "by_blocks" = true)
    (k_by_blocks : PySem.W.keepIn K (.ref a_by_blocks) = true)
    (n_L_signs : PySem.W.nsIn K mainGlobals "_law_signs" = some (some (.ref a_L_signs)))
    (l_L_signs : K.lookup a_L_signs = some ⟨oc_L_signs, od_L_signs, .func (PySem.W.fnOf "_law_signs" "_law_signs" (defArgs s_L_signs) (defBody s_L_signs) (defScope s_L_signs) .none kV_L_signs dc_L_signs pm_L_signs an_L_signs cd_L_signs ct_L_signs), sl_L_signs⟩)
    (c_L_signs : PySem.W.codeIn K cd_L_signs "_law_signs" = true)
    (k_L_signs : PySem.W.keepIn K (.ref a_L_signs) = true)
    (n_L_walks : PySem.W.nsIn K mainGlobals "_law_walks" = some (some (.ref a_L_walks)))
    (l_L_walks : K.lookup a_L_walks = some ⟨oc_L_walks, od_L_walks, .func (PySem.W.fnOf "_law_walks" "_law_walks" (defArgs s_L_walks) (defBody s_L_walks) (defScope s_L_walks) .none kV_L_walks dc_L_walks pm_L_walks an_L_walks cd_L_walks ct_L_walks), sl_L_walks⟩)
    (c_L_walks : PySem.W.codeIn K cd_L_walks "_law_walks" = true)
    (k_L_walks : PySem.W.keepIn K (.ref a_L_walks) = true)
    (n_L_parted : PySem.W.nsIn K mainGlobals "_law_parted" = some (some (.ref a_L_parted)))
    (l_L_parted : K.lookup a_L_parted = some ⟨oc_L_parted, od_L_parted, .func (PySem.W.fnOf "_law_parted" "_law_parted" (defArgs s_L_parted) (defBody s_L_parted) (defScope s_L_parted) .none kV_L_parted dc_L_parted pm_L_parted an_L_parted cd_L_parted ct_L_parted), sl_L_parted⟩)
    (c_L_parted : PySem.W.codeIn K cd_L_parted "_law_parted" = true)
    (k_L_parted : PySem.W.keepIn K (.ref a_L_parted) = true)
    (n_L_spread : PySem.W.nsIn K mainGlobals "_law_spread" = some (some (.ref a_L_spread)))
    (l_L_spread : K.lookup a_L_spread = some ⟨oc_L_spread, od_L_spread, .func (PySem.W.fnOf "_law_spread" "_law_spread" (defArgs s_L_spread) (defBody s_L_spread) (defScope s_L_spread) .none kV_L_spread dc_L_spread pm_L_spread an_L_spread cd_L_spread ct_L_spread), sl_L_spread⟩)
    (c_L_spread : PySem.W.codeIn K cd_L_spread "_law_spread" = true)
    (k_L_spread : PySem.W.keepIn K (.ref a_L_spread) = true)
    (n_L_blocks : PySem.W.nsIn K mainGlobals "_law_blocks" = some (some (.ref a_L_blocks)))
    (l_L_blocks : K.lookup a_L_blocks = some ⟨oc_L_blocks, od_L_blocks, .func (PySem.W.fnOf "_law_blocks" "_law_blocks" (defArgs s_L_blocks) (defBody s_L_blocks) (defScope s_L_blocks) .none kV_L_blocks dc_L_blocks pm_L_blocks an_L_blocks cd_L_blocks ct_L_blocks), sl_L_blocks⟩)
    (c_L_blocks : PySem.W.codeIn K cd_L_blocks "_law_blocks" = true)
    (k_L_blocks : PySem.W.keepIn K (.ref a_L_blocks) = true)
    (n_law : PySem.W.nsIn K mainGlobals "law" = some (some (.ref a_law)))
    (l_law : K.lookup a_law = some ⟨oc_law, od_law, .func (PySem.W.fnOf "law" "law" (defArgs s_law) (defBody s_law) (defScope s_law) .none kV_law dc_law pm_law an_law cd_law ct_law), sl_law⟩)
    (c_law : PySem.W.codeIn K cd_law "law" = true)
    (k_law : PySem.W.keepIn K (.ref a_law) = true)
    (pg_Walk : PySem.W.plainGet K C_Walk Str.empty = true)
    (hd_Walk : PySem.W.hasDictIn K C_Walk = true)
    (po_Walk : PySem.W.plainOver K C_Walk = true)
    (sa_Walk : PySem.W.findIn K (.ref C_Walk) "__setattr__" = some (some (.builtin "object.__setattr__")))
    (mk_Walk : PySem.W.makesIn K C_Walk = true)
    (kc_Walk : PySem.W.keepIn K (.ref C_Walk) = true)
    (f_Walk_long : PySem.W.findIn K (.ref C_Walk) "long" = some none)
    (f_Walk_blocks : PySem.W.findIn K (.ref C_Walk) "blocks" = some none)
    (f_Walk_at : PySem.W.findIn K (.ref C_Walk) "at" = some none)
    (f_Walk_row : PySem.W.findIn K (.ref C_Walk) "row" = some none)
    (f_Walk_side : PySem.W.findIn K (.ref C_Walk) "side" = some none)
    (f_Walk_steps : PySem.W.findIn K (.ref C_Walk) "steps" = some none)
    (n_MOST_ROWS_machines : PySem.W.nsIn K mainGlobals "MOST_ROWS_machines" = some (some (.int 4 tk_MOST_ROWS_machines)))
    (n_MOST_SIGNS : PySem.W.nsIn K mainGlobals "MOST_SIGNS" = some (some (.int 4 tk_MOST_SIGNS)))
    (n_MOST_ROWS_blocked : PySem.W.nsIn K mainGlobals "MOST_ROWS_blocked" = some (some (.int 2 tk_MOST_ROWS_blocked)))
    (n_BLOCK_SIGNS : PySem.W.nsIn K mainGlobals "BLOCK_SIGNS" = some (some (.int 4 tk_BLOCK_SIGNS)))
    (z_range : PySem.W.nsIn K mainGlobals "range" = some none)
    (z_len : PySem.W.nsIn K mainGlobals "len" = some none)
    (z_all : PySem.W.nsIn K mainGlobals "all" = some none)
    (z_list : PySem.W.nsIn K mainGlobals "list" = some none)
    (z_tuple : PySem.W.nsIn K mainGlobals "tuple" = some none)
    (z_sorted : PySem.W.nsIn K mainGlobals "sorted" = some none)
    (z_enumerate : PySem.W.nsIn K mainGlobals "enumerate" = some none)
    (z_dict : PySem.W.nsIn K mainGlobals "dict" = some none)
    (z_int : PySem.W.nsIn K mainGlobals "int" = some none) : Tx K mg where
  a_L_mixed := a_L_mixed
  fd_L_mixed := PySem.W.fnOf "_law_mixed" "_law_mixed" (defArgs s_L_mixed) (defBody s_L_mixed) (defScope s_L_mixed) .none kV_L_mixed dc_L_mixed pm_L_mixed an_L_mixed cd_L_mixed ct_L_mixed
  F_L_mixed := fun_mk l_L_mixed c_L_mixed k_L_mixed
  b_L_mixed := (fun_mk (st := s_L_mixed) l_L_mixed c_L_mixed k_L_mixed).binds (ps := ["_law_cell", "_law_k"]) fun _ _ _ _ _ _ us hl => match us, hl with | [_, _], _ => rfl
  m_L_mixed := PySem.W.mg_of X G n_L_mixed
  a_L_purse := a_L_purse
  fd_L_purse := PySem.W.fnOf "_law_purse" "_law_purse" (defArgs s_L_purse) (defBody s_L_purse) (defScope s_L_purse) .none kV_L_purse dc_L_purse pm_L_purse an_L_purse cd_L_purse ct_L_purse
  F_L_purse := fun_mk l_L_purse c_L_purse k_L_purse
  b_L_purse := (fun_mk (st := s_L_purse) l_L_purse c_L_purse k_L_purse).binds (ps := ["_law_script"]) fun _ _ _ _ _ _ us hl => match us, hl with | [_], _ => rfl
  m_L_purse := PySem.W.mg_of X G n_L_purse
  a_L_draw := a_L_draw
  fd_L_draw := PySem.W.fnOf "_law_draw" "_law_draw" (defArgs s_L_draw) (defBody s_L_draw) (defScope s_L_draw) .none kV_L_draw dc_L_draw pm_L_draw an_L_draw cd_L_draw ct_L_draw
  F_L_draw := fun_mk l_L_draw c_L_draw k_L_draw
  b_L_draw := (fun_mk (st := s_L_draw) l_L_draw c_L_draw k_L_draw).binds (ps := ["_law_purse_here", "_law_out_of"]) fun _ _ _ _ _ _ us hl => match us, hl with | [_, _], _ => rfl
  m_L_draw := PySem.W.mg_of X G n_L_draw
  a_L_small := a_L_small
  fd_L_small := PySem.W.fnOf "_law_small" "_law_small" (defArgs s_L_small) (defBody s_L_small) (defScope s_L_small) .none kV_L_small dc_L_small pm_L_small an_L_small cd_L_small ct_L_small
  F_L_small := fun_mk l_L_small c_L_small k_L_small
  b_L_small := (fun_mk (st := s_L_small) l_L_small c_L_small k_L_small).binds (ps := ["_law_purse_here"]) fun _ _ _ _ _ _ us hl => match us, hl with | [_], _ => rfl
  m_L_small := PySem.W.mg_of X G n_L_small
  a_is_entry := a_is_entry
  fd_is_entry := PySem.W.fnOf "is_entry" "is_entry" (defArgs s_is_entry) (defBody s_is_entry) (defScope s_is_entry) .none kV_is_entry dc_is_entry pm_is_entry an_is_entry cd_is_entry ct_is_entry
  F_is_entry := fun_mk l_is_entry c_is_entry k_is_entry
  b_is_entry := (fun_mk (st := s_is_entry) l_is_entry c_is_entry k_is_entry).binds (ps := ["entry", "rows", "signs"]) fun _ _ _ _ _ _ us hl => match us, hl with | [_, _, _], _ => rfl
  m_is_entry := PySem.W.mg_of X G n_is_entry
  a_is_machine := a_is_machine
  fd_is_machine := PySem.W.fnOf "is_machine" "is_machine" (defArgs s_is_machine) (defBody s_is_machine) (defScope s_is_machine) .none kV_is_machine dc_is_machine pm_is_machine an_is_machine cd_is_machine ct_is_machine
  F_is_machine := fun_mk l_is_machine c_is_machine k_is_machine
  b_is_machine := (fun_mk (st := s_is_machine) l_is_machine c_is_machine k_is_machine).binds (ps := ["machine"]) fun _ _ _ _ _ _ us hl => match us, hl with | [_], _ => rfl
  m_is_machine := PySem.W.mg_of X G n_is_machine
  a_must_machine := a_must_machine
  fd_must_machine := PySem.W.fnOf "must_machine" "must_machine" (defArgs s_must_machine) (defBody s_must_machine) (defScope s_must_machine) .none kV_must_machine dc_must_machine pm_must_machine an_must_machine cd_must_machine ct_must_machine
  F_must_machine := fun_mk l_must_machine c_must_machine k_must_machine
  b_must_machine := (fun_mk (st := s_must_machine) l_must_machine c_must_machine k_must_machine).binds (ps := ["machine"]) fun _ _ _ _ _ _ us hl => match us, hl with | [_], _ => rfl
  m_must_machine := PySem.W.mg_of X G n_must_machine
  a_must_blocks := a_must_blocks
  fd_must_blocks := PySem.W.fnOf "must_blocks" "must_blocks" (defArgs s_must_blocks) (defBody s_must_blocks) (defScope s_must_blocks) .none kV_must_blocks dc_must_blocks pm_must_blocks an_must_blocks cd_must_blocks ct_must_blocks
  F_must_blocks := fun_mk l_must_blocks c_must_blocks k_must_blocks
  b_must_blocks := (fun_mk (st := s_must_blocks) l_must_blocks c_must_blocks k_must_blocks).binds (ps := ["machine"]) fun _ _ _ _ _ _ us hl => match us, hl with | [_], _ => rfl
  m_must_blocks := PySem.W.mg_of X G n_must_blocks
  a_most_setups := a_most_setups
  fd_most_setups := PySem.W.fnOf "most_setups" "most_setups" (defArgs s_most_setups) (defBody s_most_setups) (defScope s_most_setups) .none kV_most_setups dc_most_setups pm_most_setups an_most_setups cd_most_setups ct_most_setups
  F_most_setups := fun_mk l_most_setups c_most_setups k_most_setups
  b_most_setups := (fun_mk (st := s_most_setups) l_most_setups c_most_setups k_most_setups).binds (ps := ["machine", "block"]) fun _ _ _ _ _ _ us hl => match us, hl with | [_, _], _ => rfl
  m_most_setups := PySem.W.mg_of X G n_most_setups
  a_through := a_through
  fd_through := PySem.W.fnOf "through" "through" (defArgs s_through) (defBody s_through) (defScope s_through) .none kV_through dc_through pm_through an_through cd_through ct_through
  F_through := fun_mk l_through c_through k_through
  b_through := (fun_mk (st := s_through) l_through c_through k_through).binds (ps := ["machine", "block", "row", "side"]) fun _ _ _ _ _ _ us hl => match us, hl with | [_, _, _, _], _ => rfl
  m_through := PySem.W.mg_of X G n_through
  a_near_row := a_near_row
  fd_near_row := PySem.W.fnOf "near_row" "near_row" (defArgs s_near_row) (defBody s_near_row) (defScope s_near_row) .none kV_near_row dc_near_row pm_near_row an_near_row cd_near_row ct_near_row
  F_near_row := fun_mk l_near_row c_near_row k_near_row
  b_near_row := (fun_mk (st := s_near_row) l_near_row c_near_row k_near_row).binds (ps := ["row", "side"]) fun _ _ _ _ _ _ us hl => match us, hl with | [_, _], _ => rfl
  m_near_row := PySem.W.mg_of X G n_near_row
  a_entry_over := a_entry_over
  fd_entry_over := PySem.W.fnOf "entry_over" "entry_over" (defArgs s_entry_over) (defBody s_entry_over) (defScope s_entry_over) .none kV_entry_over dc_entry_over pm_entry_over an_entry_over cd_entry_over ct_entry_over
  F_entry_over := fun_mk l_entry_over c_entry_over k_entry_over
  b_entry_over := (fun_mk (st := s_entry_over) l_entry_over c_entry_over k_entry_over).binds (ps := ["machine", "row", "side", "sign"]) fun _ _ _ _ _ _ us hl => match us, hl with | [_, _, _, _], _ => rfl
  m_entry_over := PySem.W.mg_of X G n_entry_over
  a_over_blocks := a_over_blocks
  fd_over_blocks := PySem.W.fnOf "over_blocks" "over_blocks" (defArgs s_over_blocks) (defBody s_over_blocks) (defScope s_over_blocks) .none kV_over_blocks dc_over_blocks pm_over_blocks an_over_blocks cd_over_blocks ct_over_blocks
  F_over_blocks := fun_mk l_over_blocks c_over_blocks k_over_blocks
  b_over_blocks := (fun_mk (st := s_over_blocks) l_over_blocks c_over_blocks k_over_blocks).binds (ps := ["machine"]) fun _ _ _ _ _ _ us hl => match us, hl with | [_], _ => rfl
  m_over_blocks := PySem.W.mg_of X G n_over_blocks
  a_Walk_init := a_Walk_init
  fd_Walk_init := PySem.W.fnOf "__init__" "Walk.__init__" (defArgs s_Walk_init) (defBody s_Walk_init) (defScope s_Walk_init) .none kV_Walk_init dc_Walk_init pm_Walk_init an_Walk_init cd_Walk_init ct_Walk_init
  F_Walk_init := fun_mk l_Walk_init c_Walk_init k_Walk_init
  b_Walk_init := (fun_mk (st := s_Walk_init) l_Walk_init c_Walk_init k_Walk_init).binds (ps := ["self", "long"]) fun _ _ _ _ _ _ us hl => match us, hl with | [_, _], _ => rfl
  a_Walk_out := a_Walk_out
  fd_Walk_out := PySem.W.fnOf "out" "Walk.out" (defArgs s_Walk_out) (defBody s_Walk_out) (defScope s_Walk_out) .none kV_Walk_out dc_Walk_out pm_Walk_out an_Walk_out cd_Walk_out ct_Walk_out
  F_Walk_out := fun_mk l_Walk_out c_Walk_out k_Walk_out
  b_Walk_out := (fun_mk (st := s_Walk_out) l_Walk_out c_Walk_out k_Walk_out).binds (ps := ["self", "found"]) fun _ _ _ _ _ _ us hl => match us, hl with | [_, _], _ => rfl
  a_Walk_place := a_Walk_place
  fd_Walk_place := PySem.W.fnOf "place" "Walk.place" (defArgs s_Walk_place) (defBody s_Walk_place) (defScope s_Walk_place) .none kV_Walk_place dc_Walk_place pm_Walk_place an_Walk_place cd_Walk_place ct_Walk_place
  F_Walk_place := fun_mk l_Walk_place c_Walk_place k_Walk_place
  b_Walk_place := (fun_mk (st := s_Walk_place) l_Walk_place c_Walk_place k_Walk_place).binds (ps := ["self"]) fun _ _ _ _ _ _ us hl => match us, hl with | [_], _ => rfl
  a_Walk_strip := a_Walk_strip
  fd_Walk_strip := PySem.W.fnOf "strip" "Walk.strip" (defArgs s_Walk_strip) (defBody s_Walk_strip) (defScope s_Walk_strip) .none kV_Walk_strip dc_Walk_strip pm_Walk_strip an_Walk_strip cd_Walk_strip ct_Walk_strip
  F_Walk_strip := fun_mk l_Walk_strip c_Walk_strip k_Walk_strip
  b_Walk_strip := (fun_mk (st := s_Walk_strip) l_Walk_strip c_Walk_strip k_Walk_strip).binds (ps := ["self"]) fun _ _ _ _ _ _ us hl => match us, hl with | [_], _ => rfl
  a_Walk_block := a_Walk_block
  fd_Walk_block := PySem.W.fnOf "block" "Walk.block" (defArgs s_Walk_block) (defBody s_Walk_block) (defScope s_Walk_block) .none kV_Walk_block dc_Walk_block pm_Walk_block an_Walk_block cd_Walk_block ct_Walk_block
  F_Walk_block := fun_mk l_Walk_block c_Walk_block k_Walk_block
  b_Walk_block := (fun_mk (st := s_Walk_block) l_Walk_block c_Walk_block k_Walk_block).binds (ps := ["self"]) fun _ _ _ _ _ _ us hl => match us, hl with | [_], _ => rfl
  a_by_blocks := a_by_blocks
  fd_by_blocks := PySem.W.fnOf "by_blocks" "by_blocks" (defArgs s_by_blocks) (defBody s_by_blocks) (defScope s_by_blocks) .none kV_by_blocks dc_by_blocks pm_by_blocks an_by_blocks cd_by_blocks ct_by_blocks
  F_by_blocks := fun_mk l_by_blocks c_by_blocks k_by_blocks
  b_by_blocks := (fun_mk (st := s_by_blocks) l_by_blocks c_by_blocks k_by_blocks).binds (ps := ["machine", "k", "many"]) fun _ _ _ _ _ _ us hl => match us, hl with | [_, _, _], _ => rfl
  m_by_blocks := PySem.W.mg_of X G n_by_blocks
  a_L_signs := a_L_signs
  fd_L_signs := PySem.W.fnOf "_law_signs" "_law_signs" (defArgs s_L_signs) (defBody s_L_signs) (defScope s_L_signs) .none kV_L_signs dc_L_signs pm_L_signs an_L_signs cd_L_signs ct_L_signs
  F_L_signs := fun_mk l_L_signs c_L_signs k_L_signs
  b_L_signs := (fun_mk (st := s_L_signs) l_L_signs c_L_signs k_L_signs).binds (ps := ["_law_strip"]) fun _ _ _ _ _ _ us hl => match us, hl with | [_], _ => rfl
  m_L_signs := PySem.W.mg_of X G n_L_signs
  a_L_walks := a_L_walks
  fd_L_walks := PySem.W.fnOf "_law_walks" "_law_walks" (defArgs s_L_walks) (defBody s_L_walks) (defScope s_L_walks) .none kV_L_walks dc_L_walks pm_L_walks an_L_walks cd_L_walks ct_L_walks
  F_L_walks := fun_mk l_L_walks c_L_walks k_L_walks
  b_L_walks := (fun_mk (st := s_L_walks) l_L_walks c_L_walks k_L_walks).binds (ps := ["_law_machine", "_law_table", "_law_stays", "_law_many"]) fun _ _ _ _ _ _ us hl => match us, hl with | [_, _, _, _], _ => rfl
  m_L_walks := PySem.W.mg_of X G n_L_walks
  a_L_parted := a_L_parted
  fd_L_parted := PySem.W.fnOf "_law_parted" "_law_parted" (defArgs s_L_parted) (defBody s_L_parted) (defScope s_L_parted) .none kV_L_parted dc_L_parted pm_L_parted an_L_parted cd_L_parted ct_L_parted
  F_L_parted := fun_mk l_L_parted c_L_parted k_L_parted
  b_L_parted := (fun_mk (st := s_L_parted) l_L_parted c_L_parted k_L_parted).binds (ps := ["_law_block"]) fun _ _ _ _ _ _ us hl => match us, hl with | [_], _ => rfl
  m_L_parted := PySem.W.mg_of X G n_L_parted
  a_L_spread := a_L_spread
  fd_L_spread := PySem.W.fnOf "_law_spread" "_law_spread" (defArgs s_L_spread) (defBody s_L_spread) (defScope s_L_spread) .none kV_L_spread dc_L_spread pm_L_spread an_L_spread cd_L_spread ct_L_spread
  F_L_spread := fun_mk l_L_spread c_L_spread k_L_spread
  b_L_spread := (fun_mk (st := s_L_spread) l_L_spread c_L_spread k_L_spread).binds (ps := ["_law_signs_here"]) fun _ _ _ _ _ _ us hl => match us, hl with | [_], _ => rfl
  m_L_spread := PySem.W.mg_of X G n_L_spread
  a_L_blocks := a_L_blocks
  fd_L_blocks := PySem.W.fnOf "_law_blocks" "_law_blocks" (defArgs s_L_blocks) (defBody s_L_blocks) (defScope s_L_blocks) .none kV_L_blocks dc_L_blocks pm_L_blocks an_L_blocks cd_L_blocks ct_L_blocks
  F_L_blocks := fun_mk l_L_blocks c_L_blocks k_L_blocks
  b_L_blocks := (fun_mk (st := s_L_blocks) l_L_blocks c_L_blocks k_L_blocks).binds (ps := ["_law_machine", "_law_table", "_law_stays", "_law_row", "_law_side", "_law_block"]) fun _ _ _ _ _ _ us hl => match us, hl with | [_, _, _, _, _, _], _ => rfl
  m_L_blocks := PySem.W.mg_of X G n_L_blocks
  a_law := a_law
  fd_law := PySem.W.fnOf "law" "law" (defArgs s_law) (defBody s_law) (defScope s_law) .none kV_law dc_law pm_law an_law cd_law ct_law
  F_law := fun_mk l_law c_law k_law
  b_law := (fun_mk (st := s_law) l_law c_law k_law).binds (ps := ["_law_script"]) fun _ _ _ _ _ _ us hl => match us, hl with | [_], _ => rfl
  m_law := PySem.W.mg_of X G n_law
  C_NoMachine := C_NoMachine
  m_NoMachine := PySem.W.mg_of X G n_NoMachine
  C_NoSize := C_NoSize
  m_NoSize := PySem.W.mg_of X G n_NoSize
  C_Walk := C_Walk
  m_Walk := PySem.W.mg_of X G n_Walk
  cl_Walk := ⟨pg_Walk, hd_Walk, po_Walk, sa_Walk⟩
  M_Walk := ⟨mk_Walk, n_Walk_init, i_Walk_init, kc_Walk⟩
  M_Walk_block := ⟨n_Walk_block, i_Walk_block, k_Walk_block⟩
  M_Walk_place := ⟨n_Walk_place, i_Walk_place, k_Walk_place⟩
  M_Walk_out := ⟨n_Walk_out, i_Walk_out, k_Walk_out⟩
  M_Walk_strip := ⟨n_Walk_strip, i_Walk_strip, k_Walk_strip⟩
  nA_Walk_long := f_Walk_long
  nA_Walk_blocks := f_Walk_blocks
  nA_Walk_at := f_Walk_at
  nA_Walk_row := f_Walk_row
  nA_Walk_side := f_Walk_side
  nA_Walk_steps := f_Walk_steps
  tk_MOST_ROWS_machines := tk_MOST_ROWS_machines
  m_MOST_ROWS_machines := PySem.W.mg_of X G n_MOST_ROWS_machines
  tk_MOST_SIGNS := tk_MOST_SIGNS
  m_MOST_SIGNS := PySem.W.mg_of X G n_MOST_SIGNS
  tk_MOST_ROWS_blocked := tk_MOST_ROWS_blocked
  m_MOST_ROWS_blocked := PySem.W.mg_of X G n_MOST_ROWS_blocked
  tk_BLOCK_SIGNS := tk_BLOCK_SIGNS
  m_BLOCK_SIGNS := PySem.W.mg_of X G n_BLOCK_SIGNS
  n_range := PySem.W.mg_none_of X G z_range
  n_len := PySem.W.mg_none_of X G z_len
  n_all := PySem.W.mg_none_of X G z_all
  n_list := PySem.W.mg_none_of X G z_list
  n_tuple := PySem.W.mg_none_of X G z_tuple
  n_sorted := PySem.W.mg_none_of X G z_sorted
  n_enumerate := PySem.W.mg_none_of X G z_enumerate
  n_dict := PySem.W.mg_none_of X G z_dict
  n_int := PySem.W.mg_none_of X G z_int
theorem all_mk {l : PySem.W.OpenLaw} {w : World} {K : PySem.W.Frag} {h : Heap} {mg : Str → Option Value} {fa : Addr} (X : K.In h) (G : h.Ns mainGlobals mg) (hfa : mg "law" = some (.ref fa)) (t : Tx K mg)
    (hb : ∃ (kV dc pm : Value) (an : Option Addr) (cd ct : Value), t.fd_law = PySem.W.fnOf "law" "law" (defArgs s_law) (defBody s_law) (defScope s_law) .none kV dc pm an cd ct) :
    ∃ fd : FuncData, (∀ (s : Shared) (v : Value), BindsTo s fd ⟨[v], []⟩ [("_law_script", v)]) ∧ ∀ base : Heap, K.In base → base.Ns mainGlobals mg → FnOk l.prog w K mg base CX0 7 fa fd ["_law_script"] (sp_law K) := by
  have e := hfa.symm.trans t.m_law
  cases e
  refine ⟨t.fd_law, fun s v => ?_, fun base _ _ => ok_law t⟩
  obtain ⟨kV, dc, pm, an, cd, ct, e⟩ := hb
  rw [e]
  exact .of_eq rfl
theorem walk {l : PySem.W.OpenLaw} {q : Program} {loose : List Str} {XP : (Str → Option Value) → Heap → Prop} {YP : World → Heap → Prop} {d : DefRec} {K : Params → PySem.W.Frag} (hn : l.most = some 63) (hdf : d.params.defaults = [])
    (hY : ∀ (w : World) (h : Heap), YP w h → (K w.params).In h)
    (F : ∀ (w : World) (mg : Str → Option Value) (fa : Addr) (h : Heap), (K w.params).In h → h.Ns mainGlobals mg → mg d.name = some (.ref fa) →
      ∃ fd : FuncData, (∀ (s : Shared) (u : Value), BindsTo s fd ⟨[u], []⟩ [("_law_script", u)]) ∧ ∀ base : Heap, (K w.params).In base → base.Ns mainGlobals mg → FnOk l.prog w (K w.params) mg base CX0 7 fa fd ["_law_script"] (sp_law (K w.params))) :
    PySem.W.WalkO q loose XP YP l.row.toRowW d [] (fun f vs => PySem.call f vs) :=
  L2.walk_of (n := 63) (k := 7) (x := "_law_script") (CX := fun _ => CX0) (sp := fun w => sp_law (K w.params)) hn (by decide) hdf ⟨rfl, by decide, by decide⟩ hY F (fun _ _ a ns hl _ hS => ⟨a, ns, rfl, hS, hl, fun _ => rfl⟩) fun _ _ _ _ _ z => z
theorem all_go {l : PySem.W.OpenLaw} {w : World} {K : PySem.W.Frag} {h : Heap} {mg : Str → Option Value} {fa : Addr} {a_L_mixed a_L_purse a_L_draw a_L_small a_is_entry a_is_machine a_must_machine a_must_blocks a_most_setups a_through a_near_row a_entry_over a_over_blocks a_Walk_init a_Walk_out a_Walk_place a_Walk_strip a_Walk_block a_by_blocks a_L_signs a_L_walks a_L_parted a_L_spread a_L_blocks a_law C_NoMachine C_NoSize C_Walk : Addr} {od_L_mixed an_L_mixed od_L_purse an_L_purse od_L_draw an_L_draw od_L_small an_L_small od_is_entry an_is_entry od_is_machine an_is_machine od_must_machine an_must_machine od_must_blocks an_must_blocks od_most_setups an_most_setups od_through an_through od_near_row an_near_row od_entry_over an_entry_over od_over_blocks an_over_blocks od_Walk_init an_Walk_init od_Walk_out an_Walk_out od_Walk_place an_Walk_place od_Walk_strip an_Walk_strip od_Walk_block an_Walk_block od_by_blocks an_by_blocks od_L_signs an_L_signs od_L_walks an_L_walks od_L_parted an_L_parted od_L_spread an_L_spread od_L_blocks an_L_blocks od_law an_law : Option Addr} {sl_L_mixed sl_L_purse sl_L_draw sl_L_small sl_is_entry sl_is_machine sl_must_machine sl_must_blocks sl_most_setups sl_through sl_near_row sl_entry_over sl_over_blocks sl_Walk_init sl_Walk_out sl_Walk_place sl_Walk_strip sl_Walk_block sl_by_blocks sl_L_signs sl_L_walks sl_L_parted sl_L_spread sl_L_blocks sl_law : Array (Option Value)} {oc_L_mixed kV_L_mixed dc_L_mixed pm_L_mixed cd_L_mixed ct_L_mixed oc_L_purse kV_L_purse dc_L_purse pm_L_purse cd_L_purse ct_L_purse oc_L_draw kV_L_draw dc_L_draw pm_L_draw cd_L_draw ct_L_draw oc_L_small kV_L_small dc_L_small pm_L_small cd_L_small ct_L_small oc_is_entry kV_is_entry dc_is_entry pm_is_entry cd_is_entry ct_is_entry oc_is_machine kV_is_machine dc_is_machine pm_is_machine cd_is_machine ct_is_machine oc_must_machine kV_must_machine dc_must_machine pm_must_machine cd_must_machine ct_must_machine oc_must_blocks kV_must_blocks dc_must_blocks pm_must_blocks cd_must_blocks ct_must_blocks oc_most_setups kV_most_setups dc_most_setups pm_most_setups cd_most_setups ct_most_setups oc_through kV_through dc_through pm_through cd_through ct_through oc_near_row kV_near_row dc_near_row pm_near_row cd_near_row ct_near_row oc_entry_over kV_entry_over dc_entry_over pm_entry_over cd_entry_over ct_entry_over oc_over_blocks kV_over_blocks dc_over_blocks pm_over_blocks cd_over_blocks ct_over_blocks oc_Walk_init kV_Walk_init dc_Walk_init pm_Walk_init cd_Walk_init ct_Walk_init oc_Walk_out kV_Walk_out dc_Walk_out pm_Walk_out cd_Walk_out ct_Walk_out oc_Walk_place kV_Walk_place dc_Walk_place pm_Walk_place cd_Walk_place ct_Walk_place oc_Walk_strip kV_Walk_strip dc_Walk_strip pm_Walk_strip cd_Walk_strip ct_Walk_strip oc_Walk_block kV_Walk_block dc_Walk_block pm_Walk_block cd_Walk_block ct_Walk_block oc_by_blocks kV_by_blocks dc_by_blocks pm_by_blocks cd_by_blocks ct_by_blocks oc_L_signs kV_L_signs dc_L_signs pm_L_signs cd_L_signs ct_L_signs oc_L_walks kV_L_walks dc_L_walks pm_L_walks cd_L_walks ct_L_walks oc_L_parted kV_L_parted dc_L_parted pm_L_parted cd_L_parted ct_L_parted oc_L_spread kV_L_spread dc_L_spread pm_L_spread cd_L_spread ct_L_spread oc_L_blocks kV_L_blocks dc_L_blocks pm_L_blocks cd_L_blocks ct_L_blocks oc_law kV_law dc_law pm_law cd_law ct_law : Value} {tk_MOST_ROWS_machines tk_MOST_SIGNS tk_MOST_ROWS_blocked tk_BLOCK_SIGNS : Tok} (X : K.In h) (G : h.Ns mainGlobals mg) (hfa : mg "law" = some (.ref fa))
    (n_NoMachine : PySem.W.nsIn K mainGlobals "NoMachine" = some (some (.ref C_NoMachine)))
    (n_NoSize : PySem.W.nsIn K mainGlobals "NoSize" = some (some (.ref C_NoSize)))
    (n_Walk : PySem.W.nsIn K mainGlobals "Walk" = some (some (.ref C_Walk)))
    (n_L_mixed : PySem.W.nsIn K mainGlobals "_law_mixed" = some (some (.ref a_L_mixed)))
    (l_L_mixed : K.lookup a_L_mixed = some ⟨oc_L_mixed, od_L_mixed, .func (PySem.W.fnOf "_law_mixed" "_law_mixed" (defArgs s_L_mixed) (defBody s_L_mixed) (defScope s_L_mixed) .none kV_L_mixed dc_L_mixed pm_L_mixed an_L_mixed cd_L_mixed ct_L_mixed), sl_L_mixed⟩)
    (c_L_mixed : PySem.W.codeIn K cd_L_mixed "_law_mixed" = true)
    (k_L_mixed : PySem.W.keepIn K (.ref a_L_mixed) = true)
    (n_L_purse : PySem.W.nsIn K mainGlobals "_law_purse" = some (some (.ref a_L_purse)))
    (l_L_purse : K.lookup a_L_purse = some ⟨oc_L_purse, od_L_purse, .func (PySem.W.fnOf "_law_purse" "_law_purse" (defArgs s_L_purse) (defBody s_L_purse) (defScope s_L_purse) .none kV_L_purse dc_L_purse pm_L_purse an_L_purse cd_L_purse ct_L_purse), sl_L_purse⟩)
    (c_L_purse : PySem.W.codeIn K cd_L_purse "_law_purse" = true)
    (k_L_purse : PySem.W.keepIn K (.ref a_L_purse) = true)
    (n_L_draw : PySem.W.nsIn K mainGlobals "_law_draw" = some (some (.ref a_L_draw)))
    (l_L_draw : K.lookup a_L_draw = some ⟨oc_L_draw, od_L_draw, .func (PySem.W.fnOf "_law_draw" "_law_draw" (defArgs s_L_draw) (defBody s_L_draw) (defScope s_L_draw) .none kV_L_draw dc_L_draw pm_L_draw an_L_draw cd_L_draw ct_L_draw), sl_L_draw⟩)
    (c_L_draw : PySem.W.codeIn K cd_L_draw "_law_draw" = true)
    (k_L_draw : PySem.W.keepIn K (.ref a_L_draw) = true)
    (n_L_small : PySem.W.nsIn K mainGlobals "_law_small" = some (some (.ref a_L_small)))
    (l_L_small : K.lookup a_L_small = some ⟨oc_L_small, od_L_small, .func (PySem.W.fnOf "_law_small" "_law_small" (defArgs s_L_small) (defBody s_L_small) (defScope s_L_small) .none kV_L_small dc_L_small pm_L_small an_L_small cd_L_small ct_L_small), sl_L_small⟩)
    (c_L_small : PySem.W.codeIn K cd_L_small "_law_small" = true)
    (k_L_small : PySem.W.keepIn K (.ref a_L_small) = true)
    (n_is_entry : PySem.W.nsIn K mainGlobals "is_entry" = some (some (.ref a_is_entry)))
    (l_is_entry : K.lookup a_is_entry = some ⟨oc_is_entry, od_is_entry, .func (PySem.W.fnOf "is_entry" "is_entry" (defArgs s_is_entry) (defBody s_is_entry) (defScope s_is_entry) .none kV_is_entry dc_is_entry pm_is_entry an_is_entry cd_is_entry ct_is_entry), sl_is_entry⟩)
    (c_is_entry : PySem.W.codeIn K cd_is_entry "is_entry" = true)
    (k_is_entry : PySem.W.keepIn K (.ref a_is_entry) = true)
    (n_is_machine : PySem.W.nsIn K mainGlobals "is_machine" = some (some (.ref a_is_machine)))
    (l_is_machine : K.lookup a_is_machine = some ⟨oc_is_machine, od_is_machine, .func (PySem.W.fnOf "is_machine" "is_machine" (defArgs s_is_machine) (defBody s_is_machine) (defScope s_is_machine) .none kV_is_machine dc_is_machine pm_is_machine an_is_machine cd_is_machine ct_is_machine), sl_is_machine⟩)
    (c_is_machine : PySem.W.codeIn K cd_is_machine "is_machine" = true)
    (k_is_machine : PySem.W.keepIn K (.ref a_is_machine) = true)
    (n_must_machine : PySem.W.nsIn K mainGlobals "must_machine" = some (some (.ref a_must_machine)))
    (l_must_machine : K.lookup a_must_machine = some ⟨oc_must_machine, od_must_machine, .func (PySem.W.fnOf "must_machine" "must_machine" (defArgs s_must_machine) (defBody s_must_machine) (defScope s_must_machine) .none kV_must_machine dc_must_machine pm_must_machine an_must_machine cd_must_machine ct_must_machine), sl_must_machine⟩)
    (c_must_machine : PySem.W.codeIn K cd_must_machine "must_machine" = true)
    (k_must_machine : PySem.W.keepIn K (.ref a_must_machine) = true)
    (n_must_blocks : PySem.W.nsIn K mainGlobals "must_blocks" = some (some (.ref a_must_blocks)))
    (l_must_blocks : K.lookup a_must_blocks = some ⟨oc_must_blocks, od_must_blocks, .func (PySem.W.fnOf "must_blocks" "must_blocks" (defArgs s_must_blocks) (defBody s_must_blocks) (defScope s_must_blocks) .none kV_must_blocks dc_must_blocks pm_must_blocks an_must_blocks cd_must_blocks ct_must_blocks), sl_must_blocks⟩)
    (c_must_blocks : PySem.W.codeIn K cd_must_blocks "must_blocks" = true)
    (k_must_blocks : PySem.W.keepIn K (.ref a_must_blocks) = true)
    (n_most_setups : PySem.W.nsIn K mainGlobals "most_setups" = some (some (.ref a_most_setups)))
    (l_most_setups : K.lookup a_most_setups = some ⟨oc_most_setups, od_most_setups, .func (PySem.W.fnOf "most_setups" "most_setups" (defArgs s_most_setups) (defBody s_most_setups) (defScope s_most_setups) .none kV_most_setups dc_most_setups pm_most_setups an_most_setups cd_most_setups ct_most_setups), sl_most_setups⟩)
    (c_most_setups : PySem.W.codeIn K cd_most_setups "most_setups" = true)
    (k_most_setups : PySem.W.keepIn K (.ref a_most_setups) = true)
    (n_through : PySem.W.nsIn K mainGlobals "through" = some (some (.ref a_through)))
    (l_through : K.lookup a_through = some ⟨oc_through, od_through, .func (PySem.W.fnOf "through" "through" (defArgs s_through) (defBody s_through) (defScope s_through) .none kV_through dc_through pm_through an_through cd_through ct_through), sl_through⟩)
    (c_through : PySem.W.codeIn K cd_through "through" = true)
    (k_through : PySem.W.keepIn K (.ref a_through) = true)
    (n_near_row : PySem.W.nsIn K mainGlobals "near_row" = some (some (.ref a_near_row)))
    (l_near_row : K.lookup a_near_row = some ⟨oc_near_row, od_near_row, .func (PySem.W.fnOf "near_row" "near_row" (defArgs s_near_row) (defBody s_near_row) (defScope s_near_row) .none kV_near_row dc_near_row pm_near_row an_near_row cd_near_row ct_near_row), sl_near_row⟩)
    (c_near_row : PySem.W.codeIn K cd_near_row "near_row" = true)
    (k_near_row : PySem.W.keepIn K (.ref a_near_row) = true)
    (n_entry_over : PySem.W.nsIn K mainGlobals "entry_over" = some (some (.ref a_entry_over)))
    (l_entry_over : K.lookup a_entry_over = some ⟨oc_entry_over, od_entry_over, .func (PySem.W.fnOf "entry_over" "entry_over" (defArgs s_entry_over) (defBody s_entry_over) (defScope s_entry_over) .none kV_entry_over dc_entry_over pm_entry_over an_entry_over cd_entry_over ct_entry_over), sl_entry_over⟩)
    (c_entry_over : PySem.W.codeIn K cd_entry_over "entry_over" = true)
    (k_entry_over : PySem.W.keepIn K (.ref a_entry_over) = true)
    (n_over_blocks : PySem.W.nsIn K mainGlobals "over_blocks" = some (some (.ref a_over_blocks)))
    (l_over_blocks : K.lookup a_over_blocks = some ⟨oc_over_blocks, od_over_blocks, .func (PySem.W.fnOf "over_blocks" "over_blocks" (defArgs s_over_blocks) (defBody s_over_blocks) (defScope s_over_blocks) .none kV_over_blocks dc_over_blocks pm_over_blocks an_over_blocks cd_over_blocks ct_over_blocks), sl_over_blocks⟩)
    (c_over_blocks : PySem.W.codeIn K cd_over_blocks "over_blocks" = true)
    (k_over_blocks : PySem.W.keepIn K (.ref a_over_blocks) = true)
    (n_Walk_init : PySem.W.findIn K (.ref C_Walk) "__init__" = some (some (.ref a_Walk_init)))
    (i_Walk_init : PySem.W.isFn K (.ref a_Walk_init) = true)
    (l_Walk_init : K.lookup a_Walk_init = some ⟨oc_Walk_init, od_Walk_init, .func (PySem.W.fnOf "__init__" "Walk.__init__" (defArgs s_Walk_init) (defBody s_Walk_init) (defScope s_Walk_init) .none kV_Walk_init dc_Walk_init pm_Walk_init an_Walk_init cd_Walk_init ct_Walk_init), sl_Walk_init⟩)
    (c_Walk_init : PySem.W.codeIn K cd_Walk_init "Walk.__init__" = true)
    (k_Walk_init : PySem.W.keepIn K (.ref a_Walk_init) = true)
    (n_Walk_out : PySem.W.findIn K (.ref C_Walk) "out" = some (some (.ref a_Walk_out)))
    (i_Walk_out : PySem.W.isFn K (.ref a_Walk_out) = true)
    (l_Walk_out : K.lookup a_Walk_out = some ⟨oc_Walk_out, od_Walk_out, .func (PySem.W.fnOf "out" "Walk.out" (defArgs s_Walk_out) (defBody s_Walk_out) (defScope s_Walk_out) .none kV_Walk_out dc_Walk_out pm_Walk_out an_Walk_out cd_Walk_out ct_Walk_out), sl_Walk_out⟩)
    (c_Walk_out : PySem.W.codeIn K cd_Walk_out "Walk.out" = true)
    (k_Walk_out : PySem.W.keepIn K (.ref a_Walk_out) = true)
    (n_Walk_place : PySem.W.findIn K (.ref C_Walk) "place" = some (some (.ref a_Walk_place)))
    (i_Walk_place : PySem.W.isFn K (.ref a_Walk_place) = true)
    (l_Walk_place : K.lookup a_Walk_place = some ⟨oc_Walk_place, od_Walk_place, .func (PySem.W.fnOf "place" "Walk.place" (defArgs s_Walk_place) (defBody s_Walk_place) (defScope s_Walk_place) .none kV_Walk_place dc_Walk_place pm_Walk_place an_Walk_place cd_Walk_place ct_Walk_place), sl_Walk_place⟩)
    (c_Walk_place : PySem.W.codeIn K cd_Walk_place "Walk.place" = true)
    (k_Walk_place : PySem.W.keepIn K (.ref a_Walk_place) = true)
    (n_Walk_strip : PySem.W.findIn K (.ref C_Walk) "strip" = some (some (.ref a_Walk_strip)))
    (i_Walk_strip : PySem.W.isFn K (.ref a_Walk_strip) = true)
    (l_Walk_strip : K.lookup a_Walk_strip = some ⟨oc_Walk_strip, od_Walk_strip, .func (PySem.W.fnOf "strip" "Walk.strip" (defArgs s_Walk_strip) (defBody s_Walk_strip) (defScope s_Walk_strip) .none kV_Walk_strip dc_Walk_strip pm_Walk_strip an_Walk_strip cd_Walk_strip ct_Walk_strip), sl_Walk_strip⟩)
    (c_Walk_strip : PySem.W.codeIn K cd_Walk_strip "Walk.strip" = true)
    (k_Walk_strip : PySem.W.keepIn K (.ref a_Walk_strip) = true)
    (n_Walk_block : PySem.W.findIn K (.ref C_Walk) "block" = some (some (.ref a_Walk_block)))
    (i_Walk_block : PySem.W.isFn K (.ref a_Walk_block) = true)
    (l_Walk_block : K.lookup a_Walk_block = some ⟨oc_Walk_block, od_Walk_block, .func (PySem.W.fnOf "block" "Walk.block" (defArgs s_Walk_block) (defBody s_Walk_block) (defScope s_Walk_block) .none kV_Walk_block dc_Walk_block pm_Walk_block an_Walk_block cd_Walk_block ct_Walk_block), sl_Walk_block⟩)
    (c_Walk_block : PySem.W.codeIn K cd_Walk_block "Walk.block" = true)
    (k_Walk_block : PySem.W.keepIn K (.ref a_Walk_block) = true)
    (n_by_blocks : PySem.W.nsIn K mainGlobals "by_blocks" = some (some (.ref a_by_blocks)))
    (l_by_blocks : K.lookup a_by_blocks = some ⟨oc_by_blocks, od_by_blocks, .func (PySem.W.fnOf "by_blocks" "by_blocks" (defArgs s_by_blocks) (defBody s_by_blocks) (defScope s_by_blocks) .none kV_by_blocks dc_by_blocks pm_by_blocks an_by_blocks cd_by_blocks ct_by_blocks), sl_by_blocks⟩)
    (c_by_blocks : PySem.W.codeIn K cd_by_blocks "by_blocks" = true)
    (k_by_blocks : PySem.W.keepIn K (.ref a_by_blocks) = true)
    (n_L_signs : PySem.W.nsIn K mainGlobals "_law_signs" = some (some (.ref a_L_signs)))
    (l_L_signs : K.lookup a_L_signs = some ⟨oc_L_signs, od_L_signs, .func (PySem.W.fnOf "_law_signs" "_law_signs" (defArgs s_L_signs) (defBody s_L_signs) (defScope s_L_signs) .none kV_L_signs dc_L_signs pm_L_signs an_L_signs cd_L_signs ct_L_signs), sl_L_signs⟩)
    (c_L_signs : PySem.W.codeIn K cd_L_signs "_law_signs" = true)
    (k_L_signs : PySem.W.keepIn K (.ref a_L_signs) = true)
    (n_L_walks : PySem.W.nsIn K mainGlobals "_law_walks" = some (some (.ref a_L_walks)))
    (l_L_walks : K.lookup a_L_walks = some ⟨oc_L_walks, od_L_walks, .func (PySem.W.fnOf "_law_walks" "_law_walks" (defArgs s_L_walks) (defBody s_L_walks) (defScope s_L_walks) .none kV_L_walks dc_L_walks pm_L_walks an_L_walks cd_L_walks ct_L_walks), sl_L_walks⟩)
    (c_L_walks : PySem.W.codeIn K cd_L_walks "_law_walks" = true)
    (k_L_walks : PySem.W.keepIn K (.ref a_L_walks) = true)
    (n_L_parted : PySem.W.nsIn K mainGlobals "_law_parted" = some (some (.ref a_L_parted)))
    (l_L_parted : K.lookup a_L_parted = some ⟨oc_L_parted, od_L_parted, .func (PySem.W.fnOf "_law_parted" "_law_parted" (defArgs s_L_parted) (defBody s_L_parted) (defScope s_L_parted) .none kV_L_parted dc_L_parted pm_L_parted an_L_parted cd_L_parted ct_L_parted), sl_L_parted⟩)
    (c_L_parted : PySem.W.codeIn K cd_L_parted "_law_parted" = true)
    (k_L_parted : PySem.W.keepIn K (.ref a_L_parted) = true)
    (n_L_spread : PySem.W.nsIn K mainGlobals "_law_spread" = some (some (.ref a_L_spread)))
    (l_L_spread : K.lookup a_L_spread = some ⟨oc_L_spread, od_L_spread, .func (PySem.W.fnOf "_law_spread" "_law_spread" (defArgs s_L_spread) (defBody s_L_spread) (defScope s_L_spread) .none kV_L_spread dc_L_spread pm_L_spread an_L_spread cd_L_spread ct_L_spread), sl_L_spread⟩)
    (c_L_spread : PySem.W.codeIn K cd_L_spread "_law_spread" = true)
    (k_L_spread : PySem.W.keepIn K (.ref a_L_spread) = true)
    (n_L_blocks : PySem.W.nsIn K mainGlobals "_law_blocks" = some (some (.ref a_L_blocks)))
    (l_L_blocks : K.lookup a_L_blocks = some ⟨oc_L_blocks, od_L_blocks, .func (PySem.W.fnOf "_law_blocks" "_law_blocks" (defArgs s_L_blocks) (defBody s_L_blocks) (defScope s_L_blocks) .none kV_L_blocks dc_L_blocks pm_L_blocks an_L_blocks cd_L_blocks ct_L_blocks), sl_L_blocks⟩)
    (c_L_blocks : PySem.W.codeIn K cd_L_blocks "_law_blocks" = true)
    (k_L_blocks : PySem.W.keepIn K (.ref a_L_blocks) = true)
    (n_law : PySem.W.nsIn K mainGlobals "law" = some (some (.ref a_law)))
    (l_law : K.lookup a_law = some ⟨oc_law, od_law, .func (PySem.W.fnOf "law" "law" (defArgs s_law) (defBody s_law) (defScope s_law) .none kV_law dc_law pm_law an_law cd_law ct_law), sl_law⟩)
    (c_law : PySem.W.codeIn K cd_law "law" = true)
    (k_law : PySem.W.keepIn K (.ref a_law) = true)
    (pg_Walk : PySem.W.plainGet K C_Walk Str.empty = true)
    (hd_Walk : PySem.W.hasDictIn K C_Walk = true)
    (po_Walk : PySem.W.plainOver K C_Walk = true)
    (sa_Walk : PySem.W.findIn K (.ref C_Walk) "__setattr__" = some (some (.builtin "object.__setattr__")))
    (mk_Walk : PySem.W.makesIn K C_Walk = true)
    (kc_Walk : PySem.W.keepIn K (.ref C_Walk) = true)
    (f_Walk_long : PySem.W.findIn K (.ref C_Walk) "long" = some none)
    (f_Walk_blocks : PySem.W.findIn K (.ref C_Walk) "blocks" = some none)
    (f_Walk_at : PySem.W.findIn K (.ref C_Walk) "at" = some none)
    (f_Walk_row : PySem.W.findIn K (.ref C_Walk) "row" = some none)
    (f_Walk_side : PySem.W.findIn K (.ref C_Walk) "side" = some none)
    (f_Walk_steps : PySem.W.findIn K (.ref C_Walk) "steps" = some none)
    (n_MOST_ROWS_machines : PySem.W.nsIn K mainGlobals "MOST_ROWS_machines" = some (some (.int 4 tk_MOST_ROWS_machines)))
    (n_MOST_SIGNS : PySem.W.nsIn K mainGlobals "MOST_SIGNS" = some (some (.int 4 tk_MOST_SIGNS)))
    (n_MOST_ROWS_blocked : PySem.W.nsIn K mainGlobals "MOST_ROWS_blocked" = some (some (.int 2 tk_MOST_ROWS_blocked)))
    (n_BLOCK_SIGNS : PySem.W.nsIn K mainGlobals "BLOCK_SIGNS" = some (some (.int 4 tk_BLOCK_SIGNS)))
    (z_range : PySem.W.nsIn K mainGlobals "range" = some none)
    (z_len : PySem.W.nsIn K mainGlobals "len" = some none)
    (z_all : PySem.W.nsIn K mainGlobals "all" = some none)
    (z_list : PySem.W.nsIn K mainGlobals "list" = some none)
    (z_tuple : PySem.W.nsIn K mainGlobals "tuple" = some none)
    (z_sorted : PySem.W.nsIn K mainGlobals "sorted" = some none)
    (z_enumerate : PySem.W.nsIn K mainGlobals "enumerate" = some none)
    (z_dict : PySem.W.nsIn K mainGlobals "dict" = some none)
    (z_int : PySem.W.nsIn K mainGlobals "int" = some none) :
    ∃ fd : FuncData, (∀ (s : Shared) (v : Value), BindsTo s fd ⟨[v], []⟩ [("_law_script", v)]) ∧ ∀ base : Heap, K.In base → base.Ns mainGlobals mg → FnOk l.prog w K mg base CX0 7 fa fd ["_law_script"] (sp_law K) :=
  all_mk X G hfa (all_tx X G n_NoMachine n_NoSize n_Walk n_L_mixed l_L_mixed c_L_mixed k_L_mixed n_L_purse l_L_purse c_L_purse k_L_purse n_L_draw l_L_draw c_L_draw k_L_draw n_L_small l_L_small c_L_small k_L_small n_is_entry l_is_entry c_is_entry k_is_entry n_is_machine l_is_machine c_is_machine k_is_machine n_must_machine l_must_machine c_must_machine k_must_machine n_must_blocks l_must_blocks c_must_blocks k_must_blocks n_most_setups l_most_setups c_most_setups k_most_setups n_through l_through c_through k_through n_near_row l_near_row c_near_row k_near_row n_entry_over l_entry_over c_entry_over k_entry_over n_over_blocks l_over_blocks c_over_blocks k_over_blocks n_Walk_init i_Walk_init l_Walk_init c_Walk_init k_Walk_init n_Walk_out i_Walk_out l_Walk_out c_Walk_out k_Walk_out n_Walk_place i_Walk_place l_Walk_place c_Walk_place k_Walk_place n_Walk_strip i_Walk_strip l_Walk_strip c_Walk_strip k_Walk_strip n_Walk_block i_Walk_block l_Walk_block c_Walk_block k_Walk_block n_by_blocks l_by_blocks c_by_blocks k_by_blocks n_L_signs l_L_signs c_L_signs k_L_signs n_L_walks l_L_walks c_L_walks k_L_walks n_L_parted l_L_parted c_L_parted k_L_parted n_L_spread l_L_spread c_L_spread k_L_spread n_L_blocks l_L_blocks c_L_blocks k_L_blocks n_law l_law c_law k_law pg_Walk hd_Walk po_Walk sa_Walk mk_Walk kc_Walk f_Walk_long f_Walk_blocks f_Walk_at f_Walk_row f_Walk_side f_Walk_steps n_MOST_ROWS_machines n_MOST_SIGNS n_MOST_ROWS_blocked n_BLOCK_SIGNS z_range z_len z_all z_list z_tuple z_sorted z_enumerate z_dict z_int) ⟨_, _, _, _, _, _, rfl⟩
end E
open PySem PySem.W PyProof.Rows
set_option maxRecDepth 100000 in
set_option maxHeartbeats 0 in
theorem PySem.Challenge.cw_endnever_k93_whole_blocks_of_four_holds : PySem.Challenge.rw_endnever_k93_whole_blocks_of_four.Holds := by
  w_on; o_law; k_head; (case hw => w_witness2)
  k_fill
  refine E.walk (l := PySem.Challenge.rw_endnever_k93_whole_blocks_of_four) rfl rfl (fun w h Y => PySem.W.kIn_of Y) ?F
  case F =>
    intro w mg fa h KX G hmg
    refine' E.all_go KX G hmg ?n_NoMachine ?n_NoSize ?n_Walk ?n_L_mixed ?l_L_mixed ?c_L_mixed ?k_L_mixed ?n_L_purse ?l_L_purse ?c_L_purse ?k_L_purse ?n_L_draw ?l_L_draw ?c_L_draw ?k_L_draw ?n_L_small ?l_L_small ?c_L_small ?k_L_small ?n_is_entry ?l_is_entry ?c_is_entry ?k_is_entry ?n_is_machine ?l_is_machine ?c_is_machine ?k_is_machine ?n_must_machine ?l_must_machine ?c_must_machine ?k_must_machine ?n_must_blocks ?l_must_blocks ?c_must_blocks ?k_must_blocks ?n_most_setups ?l_most_setups ?c_most_setups ?k_most_setups ?n_through ?l_through ?c_through ?k_through ?n_near_row ?l_near_row ?c_near_row ?k_near_row ?n_entry_over ?l_entry_over ?c_entry_over ?k_entry_over ?n_over_blocks ?l_over_blocks ?c_over_blocks ?k_over_blocks ?n_Walk_init ?i_Walk_init ?l_Walk_init ?c_Walk_init ?k_Walk_init ?n_Walk_out ?i_Walk_out ?l_Walk_out ?c_Walk_out ?k_Walk_out ?n_Walk_place ?i_Walk_place ?l_Walk_place ?c_Walk_place ?k_Walk_place ?n_Walk_strip ?i_Walk_strip ?l_Walk_strip ?c_Walk_strip ?k_Walk_strip ?n_Walk_block ?i_Walk_block ?l_Walk_block ?c_Walk_block ?k_Walk_block ?n_by_blocks ?l_by_blocks ?c_by_blocks ?k_by_blocks ?n_L_signs ?l_L_signs ?c_L_signs ?k_L_signs ?n_L_walks ?l_L_walks ?c_L_walks ?k_L_walks ?n_L_parted ?l_L_parted ?c_L_parted ?k_L_parted ?n_L_spread ?l_L_spread ?c_L_spread ?k_L_spread ?n_L_blocks ?l_L_blocks ?c_L_blocks ?k_L_blocks ?n_law ?l_law ?c_law ?k_law ?pg_Walk ?hd_Walk ?po_Walk ?sa_Walk ?mk_Walk ?kc_Walk ?f_Walk_long ?f_Walk_blocks ?f_Walk_at ?f_Walk_row ?f_Walk_side ?f_Walk_steps ?n_MOST_ROWS_machines ?n_MOST_SIGNS ?n_MOST_ROWS_blocked ?n_BLOCK_SIGNS ?z_range ?z_len ?z_all ?z_list ?z_tuple ?z_sorted ?z_enumerate ?z_dict ?z_int
    (case n_NoMachine => k_is); (case n_NoSize => k_is); (case n_Walk => k_is); (case n_L_mixed => k_is); (case l_L_mixed => k_is); (case c_L_mixed => k_is); (case k_L_mixed => k_is); (case n_L_purse => k_is)
    (case l_L_purse => k_is); (case c_L_purse => k_is); (case k_L_purse => k_is); (case n_L_draw => k_is); (case l_L_draw => k_is); (case c_L_draw => k_is); (case k_L_draw => k_is); (case n_L_small => k_is)
    (case l_L_small => k_is); (case c_L_small => k_is); (case k_L_small => k_is); (case n_is_entry => k_is); (case l_is_entry => k_is); (case c_is_entry => k_is); (case k_is_entry => k_is); (case n_is_machine => k_is)
    (case l_is_machine => k_is); (case c_is_machine => k_is); (case k_is_machine => k_is); (case n_must_machine => k_is); (case l_must_machine => k_is); (case c_must_machine => k_is); (case k_must_machine => k_is); (case n_must_blocks => k_is)
    (case l_must_blocks => k_is); (case c_must_blocks => k_is); (case k_must_blocks => k_is); (case n_most_setups => k_is); (case l_most_setups => k_is); (case c_most_setups => k_is); (case k_most_setups => k_is); (case n_through => k_is)
    (case l_through => k_is); (case c_through => k_is); (case k_through => k_is); (case n_near_row => k_is); (case l_near_row => k_is); (case c_near_row => k_is); (case k_near_row => k_is); (case n_entry_over => k_is)
    (case l_entry_over => k_is); (case c_entry_over => k_is); (case k_entry_over => k_is); (case n_over_blocks => k_is); (case l_over_blocks => k_is); (case c_over_blocks => k_is); (case k_over_blocks => k_is); (case n_Walk_init => k_is)
    (case i_Walk_init => k_is); (case l_Walk_init => k_is); (case c_Walk_init => k_is); (case k_Walk_init => k_is); (case n_Walk_out => k_is); (case i_Walk_out => k_is); (case l_Walk_out => k_is); (case c_Walk_out => k_is)
    (case k_Walk_out => k_is); (case n_Walk_place => k_is); (case i_Walk_place => k_is); (case l_Walk_place => k_is); (case c_Walk_place => k_is); (case k_Walk_place => k_is); (case n_Walk_strip => k_is); (case i_Walk_strip => k_is)
    (case l_Walk_strip => k_is); (case c_Walk_strip => k_is); (case k_Walk_strip => k_is); (case n_Walk_block => k_is); (case i_Walk_block => k_is); (case l_Walk_block => k_is); (case c_Walk_block => k_is); (case k_Walk_block => k_is)
    (case n_by_blocks => k_is); (case l_by_blocks => k_is); (case c_by_blocks => k_is); (case k_by_blocks => k_is); (case n_L_signs => k_is); (case l_L_signs => k_is); (case c_L_signs => k_is); (case k_L_signs => k_is)
    (case n_L_walks => k_is); (case l_L_walks => k_is); (case c_L_walks => k_is); (case k_L_walks => k_is); (case n_L_parted => k_is); (case l_L_parted => k_is); (case c_L_parted => k_is); (case k_L_parted => k_is)
    (case n_L_spread => k_is); (case l_L_spread => k_is); (case c_L_spread => k_is); (case k_L_spread => k_is); (case n_L_blocks => k_is); (case l_L_blocks => k_is); (case c_L_blocks => k_is); (case k_L_blocks => k_is)
    (case n_law => k_is); (case l_law => k_is); (case c_law => k_is); (case k_law => k_is); (case pg_Walk => k_is); (case hd_Walk => k_is); (case po_Walk => k_is); (case sa_Walk => k_is)
    (case mk_Walk => k_is); (case kc_Walk => k_is); (case f_Walk_long => k_is); (case f_Walk_blocks => k_is); (case f_Walk_at => k_is); (case f_Walk_row => k_is); (case f_Walk_side => k_is); (case f_Walk_steps => k_is)
    (case n_MOST_ROWS_machines => k_is); (case n_MOST_SIGNS => k_is); (case n_MOST_ROWS_blocked => k_is); (case n_BLOCK_SIGNS => k_is); (case z_range => k_is); (case z_len => k_is); (case z_all => k_is); (case z_list => k_is)
    (case z_tuple => k_is); (case z_sorted => k_is); (case z_enumerate => k_is); (case z_dict => k_is); (case z_int => k_is)
#print axioms PySem.Challenge.cw_endnever_k93_whole_blocks_of_four_holds
