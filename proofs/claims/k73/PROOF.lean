import PyProof.Rows.All
import Wide.All
import OpenK.AllK
import Wide.FinOn
import HandS.ForMost
import HandS.SortRule
import HandS.IsInst
import HandS.TupAny
import HandS.TupMul
import HandS.Walk
import HandS.More
import HandS.ListItems
import HandS.Wide
import KE.KTupSum
import HandS.Style
import HandS.Deep
import PySem.Challenge.RW_endnever_k73_whole_blocks_within_blocks
set_option Elab.async false
set_option maxRecDepth 100000
set_option maxHeartbeats 4000000
namespace E
open PySem L2
/-! ### small words of our own -/
theorem inr_int {x : V} {ns : List Int} {i : Nat} (h : (ns.map V.int)[i]? = some x) : ∃ z, x = V.int z ∧ ns[i]? = some z := by
  rw [List.getElem?_map] at h
  cases e : ns[i]? with
  | none => rw [e] at h; cases h
  | some z => rw [e] at h; exact ⟨z, (Option.some.inj h).symm, rfl⟩
/-- F stands in H, whatever comes to it -/
theorem sm_new {F H : Hp} {p : Addr} {o : HO} (s : Same F H) (n : H p = Option.none) : Same F (upd H p o) := fun b u e => by
  rw [upd_ne (ne_of_none (s b u e) n)]
  exact s b u e
theorem sm_set {F H : Hp} {p : Addr} {o : HO} (s : Same F H) (n : F p = Option.none) : Same F (upd H p o) := fun b u e => by
  rw [upd_ne (ne_of_none e n)]
  exact s b u e
theorem sm_up {H : Hp} {p : Addr} {o : HO} (n : H p = none) : Same H (upd H p o) := sm_new (Same.refl H) n
theorem cut_63 {ns : List Int} (h : ns.length ≤ 63) : cutV (ns.map V.int) none (some 63) = ns.map V.int := by
  unfold cutV
  have e1 : HT.sIx (ns.map V.int).length 0 none = 0 := rfl
  have e2 : HT.sIx (ns.map V.int).length (ns.map V.int).length (some 63) = (ns.map V.int).length := by
    simp only [HT.sIx, List.length_map]
    rw [if_neg (by decide), show (63 : Int).toNat = 63 from rfl]
    omega
  rw [e1, e2, List.drop_zero, Nat.sub_zero, List.take_length]
theorem ifT {c : Bool} {A B : Prop} (h : c = true) (a : A) : if c = true then A else B := by
  rw [if_pos h]; exact a
theorem ifF {c : Bool} {A B : Prop} (h : c = false) (b : B) : if c = true then A else B := by
  rw [h, if_neg Bool.false_ne_true]; exact b
theorem one_le : 1 ≤ sizeLine := by decide
theorem two_le : 2 ≤ sizeLine := by decide
theorem three_le : 3 ≤ sizeLine := by decide
theorem five_le : 5 ≤ sizeLine := by decide
theorem nil_le : 0 ≤ sizeLine := by decide
theorem lt_size {n : Nat} (h : n ≤ 1000000) : n < sizeLine := Nat.lt_of_le_of_lt h (by decide)
theorem le_size {n : Nat} (h : n ≤ 1000000) : n ≤ sizeLine := Nat.le_of_lt (lt_size h)
theorem pi_listK {X : Cx} {K : PySem.W.Frag} {tg l : Expr} {tl : TE} (e : X.K = K) (h : PE X l tl) : PI X tg l (iList K tl) := by
  subst e; exact pi_list h
theorem pi_tupK {X : Cx} {K : PySem.W.Frag} {tg l : Expr} {tl : TE} (e : X.K = K) (h : PE X l tl) : PI X tg l (iTup K tl) := by
  subst e; exact pi_tup h
theorem crK {X : Cx} {K : PySem.W.Frag} {f : Value} {r : PySem.W.Frag → List V → Hp → VK → Prop} (e : X.K = K) (h : CallR X f (r X.K)) : CallR X f (r K) := by
  subst e; exact h
theorem orK {X : Cx} {K : PySem.W.Frag} {f : Value → Value → Sem Value} {r : PySem.W.Frag → R2} (e : X.K = K) (h : OpR X f (r X.K)) : OpR X f (r K) := by
  subst e; exact h
theorem ixK {X : Cx} {K : PySem.W.Frag} {r : PySem.W.Frag → R2} (e : X.K = K) (h : IxR X (r X.K)) : IxR X (r K) := by
  subst e; exact h
theorem slK {X : Cx} {K : PySem.W.Frag} {r : PySem.W.Frag → V → Option Int → Option Int → Hp → VK → Prop} (e : X.K = K) (h : SlR X (r X.K)) : SlR X (r K) := by
  subst e; exact h
def rLenQ (K : PySem.W.Frag) : List V → Hp → VK → Prop := fun xs H Q => ∃ p ys, xs = [.ref p] ∧ (SqL K H p ys ∨ SqT K H p ys) ∧ Q (.int ys.length) H
def rListQ (K : PySem.W.Frag) : List V → Hp → VK → Prop := fun xs H Q => ∃ p ys, xs = [.ref p] ∧ (SqL K H p ys ∨ SqT K H p ys) ∧ ∀ l, H l = none → Q (.ref l) (upd H l (.lst ys))
def rTupQ (K : PySem.W.Frag) : List V → Hp → VK → Prop := fun xs H Q => ∃ p ys, xs = [.ref p] ∧ ((SqL K H p ys ∧ ∀ l, H l = none → Q (.ref l) (upd H l (.tup ys))) ∨ (SqT K H p ys ∧ Q (.ref p) H))
theorem ne_of_none' {F H : Hp} {q : Addr} (s : Same F H) (n : H q = none) : F q = none := s.free n
/-- a comprehension without a test: its item comes in -/
theorem yes {σ : St} {H : Hp} {A : Hp → Prop} {B : Hp → Prop} (a : A H) : tYes σ H (fun b H3 => if b = true then A H3 else B H3) := by
  show if true = true then A H else B H
  rw [if_pos rfl]; exact a
theorem call_lenQ {X : Cx} : CallR X (.builtin "len") (rLenQ X.K) := call_len_seq
theorem call_listQ {X : Cx} : CallR X (.type "list") (rListQ X.K) := call_list_of
theorem call_tupQ {X : Cx} : CallR X (.type "tuple") (rTupQ X.K) := call_tuple_of
@[irreducible] def rDictP (K : PySem.W.Frag) : List V → Hp → VK → Prop := fun xs H Q => ∃ (a : Addr) (ps : List Addr) (kvs : List (Key × V)), xs = [.ref a] ∧ SqL K H a (ps.map V.ref) ∧ Paired (fun p kv => SqT K H p [kV kv.1, kv.2]) ps kvs ∧ ∀ p, H p = none → Q (.ref p) (upd H p (.dK (mergeK [] kvs)))
theorem call_dictQ {X : Cx} (hc : X.calm = true) : CallR X (.type "dict") (rDictP X.K) := by
  unfold rDictP
  exact call_dictP hc
@[irreducible] def rSortQ (K : PySem.W.Frag) : List V → Hp → VK → Prop := rSortedPO K
theorem call_sortQ {X : Cx} : CallR X (.builtin "sorted") (rSortQ X.K) := by
  unfold rSortQ
  exact cr_sortedPO
theorem pg_tupK {X : Cx} {K : PySem.W.Frag} {es : List Expr} {k n : Nat} {t : TGs} {pos : Pos} (e : X.K = K) (hc : X.calm = true) (h : PGs X es t) (hn : (assignEach es X.env).length = n := by rfl) (hst : (assignEach es X.env).findIdx? (·.1) = none := by rfl) : PG X (.Tuple es k pos) (gTup K n t) := by
  subst e; exact pg_tup hc h hn hst
theorem pe_fldK {X : Cx} {K : PySem.W.Frag} {e : Expr} {f : Str} {pos : Pos} {ta : TE} (ek : X.K = K) (he : PE X e ta) (hb : attributeBase e f X.env (eval e X.env) = eval e X.env) : PE X (.Attribute e f pos) (tFld K ta f) := by
  subst ek; exact pe_fld he hb
/-! ### what stands, what is new: F the frozen part (nobody changes it), H the heap; from F, H to F', H' with changes at mu alone -/
structure Gr (mu : Addr → Prop) (F H F' H' : Hp) : Prop where
  ff : Same F F'
  fh : Same F' H'
  nw : ∀ c o, F' c = some o → F c = some o ∨ H c = none
  fr : ∀ c o, H c = some o → ¬ mu c → H' c = some o
  th : ∀ c, H' c = none → H c = none
/-- nothing but new things -/
abbrev mu0 : Addr → Prop := fun _ => False
/-- the purse alone -/
abbrev muP (p : Addr) : Addr → Prop := fun c => c = p
section
variable {mu : Addr → Prop} {F H F1 H1 F2 H2 : Hp} {q : Addr} {o u : HO}
theorem Gr.refl (s : Same F H) : Gr mu F H F H := ⟨fun _ _ h => h, s, fun _ _ h => .inl h, fun _ _ h _ => h, fun _ h => h⟩
theorem Gr.trans (a : Gr mu F H F1 H1) (b : Gr mu F1 H1 F2 H2) : Gr mu F H F2 H2 where
  ff := fun c o h => b.ff c o (a.ff c o h)
  fh := b.fh
  nw := fun c o h => by
    rcases b.nw c o h with h | h
    · exact a.nw c o h
    · exact .inr (a.th c h)
  fr := fun c o h m => b.fr c o (a.fr c o h m) m
  th := fun c h => a.th c (b.th c h)
/-- a part that changes what is ours, or what mu has -/
theorem Gr.thn {mu' : Addr → Prop} (a : Gr mu F H F1 H1) (b : Gr mu' F1 H1 F2 H2) (k : ∀ c, mu' c → mu c ∨ H c = none) : Gr mu F H F2 H2 where
  ff := fun c o h => b.ff c o (a.ff c o h)
  fh := b.fh
  nw := fun c o h => by
    rcases b.nw c o h with h | h
    · exact a.nw c o h
    · exact .inr (a.th c h)
  fr := fun c o h m => b.fr c o (a.fr c o h m) fun z => (k c z).elim m fun n => by rw [n] at h; cases h
  th := fun c h => a.th c (b.th c h)
theorem Gr.weak {mu' : Addr → Prop} (a : Gr mu F H F1 H1) (m : ∀ c, mu c → mu' c) : Gr mu' F H F1 H1 :=
  ⟨a.ff, a.fh, a.nw, fun c o h n => a.fr c o h fun z => n (m c z), a.th⟩
theorem Gr.of0 (a : Gr mu0 F H F1 H1) : Gr mu F H F1 H1 := a.weak fun _ z => z.elim
/-- a new thing that nobody will change -/
theorem Gr.new (a : Gr mu F H F1 H1) (n : H1 q = none) : Gr mu F H (upd F1 q o) (upd H1 q o) where
  ff := fun c o h => by
    rw [upd_ne (ne_of_none (a.fh c o (a.ff c o h)) n)]
    exact a.ff c o h
  fh := fun c u h => by
    by_cases e : c = q
    · subst e; rw [upd_same] at h ⊢; exact h
    · rw [upd_ne e] at h ⊢; exact a.fh c u h
  nw := fun c u h => by
    by_cases e : c = q
    · subst e; exact .inr (a.th _ n)
    · rw [upd_ne e] at h; exact a.nw c u h
  fr := fun c u h m => by
    rw [upd_ne (ne_of_none (a.fr c u h m) n)]
    exact a.fr c u h m
  th := fun c h => by
    by_cases e : c = q
    · subst e; rw [upd_same] at h; cases h
    · rw [upd_ne e] at h; exact a.th c h
/-- a new thing that may be changed yet -/
theorem Gr.own (a : Gr mu F H F1 H1) (n : H1 q = none) : Gr mu F H F1 (upd H1 q o) where
  ff := a.ff
  fh := fun c u h => by
    rw [upd_ne (ne_of_none (a.fh c u h) n)]
    exact a.fh c u h
  nw := a.nw
  fr := fun c u h m => by
    rw [upd_ne (ne_of_none (a.fr c u h m) n)]
    exact a.fr c u h m
  th := fun c h => by
    by_cases e : c = q
    · subst e; rw [upd_same] at h; cases h
    · rw [upd_ne e] at h; exact a.th c h
/-- a change of what is ours, and not frozen -/
theorem Gr.set (a : Gr mu F H F1 H1) (f : F1 q = none) (m : H q = none ∨ mu q) : Gr mu F H F1 (upd H1 q o) where
  ff := a.ff
  fh := fun c u h => by
    rw [upd_ne (ne_of_none h f)]
    exact a.fh c u h
  nw := a.nw
  fr := fun c u h k => by
    have e : c ≠ q := by
      rintro rfl
      rcases m with m | m
      · rw [m] at h; cases h
      · exact k m
    rw [upd_ne e]
    exact a.fr c u h k
  th := fun c h => by
    by_cases e : c = q
    · subst e; rw [upd_same] at h; cases h
    · rw [upd_ne e] at h; exact a.th c h
/-- what was ours is changed no more -/
theorem Gr.frz (a : Gr mu F H F1 H1) (h : H1 q = some o) (n : H q = none) (f : F1 q = none) : Gr mu F H (upd F1 q o) H1 where
  ff := fun c u e => by
    rw [upd_ne (ne_of_none (a.ff c u e) f)]
    exact a.ff c u e
  fh := fun c u e => by
    by_cases k : c = q
    · subst k; rw [upd_same] at e; cases e; exact h
    · rw [upd_ne k] at e; exact a.fh c u e
  nw := fun c u e => by
    by_cases k : c = q
    · subst k; exact .inr n
    · rw [upd_ne k] at e; exact a.nw c u e
  fr := a.fr
  th := a.th
theorem Gr.free (a : Gr mu F H F1 H1) (n : H1 q = none) : F1 q = none := a.fh.free n
end
/-- an owned thing: new since H, not frozen, it is o now -/
structure Ow (H F H1 : Hp) (q : Addr) (o : HO) : Prop where
  n : H q = none
  f : F q = none
  h : H1 q = some o
section
variable {mu mu' : Addr → Prop} {H0 F H F1 H1 : Hp} {q r : Addr} {o u : HO}
theorem Ow.call (w : Ow H0 F H q o) (a : Gr mu F H F1 H1) (m : ¬ mu q) : Ow H0 F1 H1 q o :=
  ⟨w.n, (by
    cases e : F1 q with
    | none => rfl
    | some z =>
      rcases a.nw q z e with k | k
      · rw [w.f] at k; cases k
      · rw [w.h] at k; cases k), a.fr q o w.h m⟩
theorem Ow.ne (w : Ow H0 F H q o) (n : H r = none) : q ≠ r := ne_of_none w.h n
theorem Ow.new (w : Ow H0 F H q o) (n : H r = none) : Ow H0 (upd F r u) (upd H r u) q o :=
  ⟨w.n, by rw [upd_ne (w.ne n)]; exact w.f, by rw [upd_ne (w.ne n)]; exact w.h⟩
theorem Ow.own (w : Ow H0 F H q o) (n : H r = none) : Ow H0 F (upd H r u) q o :=
  ⟨w.n, w.f, by rw [upd_ne (w.ne n)]; exact w.h⟩
theorem Ow.mk1 (a : Gr mu H0' H0 F H) (n : H q = none) : Ow H0 F (upd H q o) q o := ⟨a.th q n, a.free n, upd_same⟩
theorem Ow.set (w : Ow H0 F H q o) : Ow H0 F (upd H q u) q u := ⟨w.n, w.f, upd_same⟩
theorem Ow.other (w : Ow H0 F H q o) (e : q ≠ r) : Ow H0 F (upd H r u) q o := ⟨w.n, w.f, by rw [upd_ne e]; exact w.h⟩
end
/-! ### what stands for a datum -/
def All2 {α β : Type} (r : α → β → Prop) (xs : List α) (ys : List β) : Prop := xs.length = ys.length ∧ ∀ (i : Nat) (x : α) (y : β), xs[i]? = some x → ys[i]? = some y → r x y
section
variable {α β : Type} {r s : α → β → Prop} {xs xs' : List α} {ys ys' : List β}
theorem All2.nil : All2 r [] [] := ⟨rfl, fun i x y h => by simp at h⟩
theorem All2.get (a : All2 r xs ys) {i : Nat} {y : β} (h : ys[i]? = some y) : ∃ x, xs[i]? = some x ∧ r x y := by
  have l := (List.getElem?_eq_some_iff.mp h).1
  have l' : i < xs.length := by rw [a.1]; exact l
  exact ⟨xs[i], List.getElem?_eq_getElem l', a.2 i _ y (List.getElem?_eq_getElem l') h⟩
theorem All2.get' (a : All2 r xs ys) {i : Nat} {x : α} (h : xs[i]? = some x) : ∃ y, ys[i]? = some y ∧ r x y := by
  have l := (List.getElem?_eq_some_iff.mp h).1
  have l' : i < ys.length := by rw [← a.1]; exact l
  exact ⟨ys[i], List.getElem?_eq_getElem l', a.2 i x _ h (List.getElem?_eq_getElem l')⟩
theorem All2.imp (a : All2 r xs ys) (f : ∀ x y, r x y → s x y) : All2 s xs ys := ⟨a.1, fun i x y h k => f x y (a.2 i x y h k)⟩
theorem All2.app (a : All2 r xs ys) (b : All2 r xs' ys') : All2 r (xs ++ xs') (ys ++ ys') := by
  refine ⟨by rw [List.length_append, List.length_append, a.1, b.1], fun i x y h k => ?_⟩
  by_cases l : i < xs.length
  · rw [List.getElem?_append_left l] at h
    rw [List.getElem?_append_left (by rw [← a.1]; exact l)] at k
    exact a.2 i x y h k
  · rw [List.getElem?_append_right (by omega)] at h
    rw [List.getElem?_append_right (by rw [← a.1]; omega), ← a.1] at k
    exact b.2 _ x y h k
theorem All2.one {x : α} {y : β} (h : r x y) : All2 r [x] [y] := ⟨rfl, fun i a b p q => by
  cases i with
  | zero => simp at p q; subst p; subst q; exact h
  | succ n => simp at p⟩
theorem All2.cons {x : α} {y : β} (h : r x y) (a : All2 r xs ys) : All2 r (x :: xs) (y :: ys) := (All2.one h).app a
theorem All2.set (a : All2 r xs ys) {x : α} {y : β} (h : r x y) (j : Nat) : All2 r (xs.set j x) (ys.set j y) := by
  refine ⟨by rw [List.length_set, List.length_set]; exact a.1, fun i u v p q => ?_⟩
  by_cases e : j = i
  · subst e
    rw [List.getElem?_set_self'] at p q
    cases e1 : xs[j]? with
    | none => rw [e1] at p; cases p
    | some z =>
      cases e2 : ys[j]? with
      | none => rw [e2] at q; cases q
      | some z2 =>
        rw [e1] at p; rw [e2] at q
        cases p; cases q
        exact h
  · rw [List.getElem?_set_ne e] at p q
    exact a.2 i u v p q
theorem All2.take (a : All2 r xs ys) (n : Nat) : All2 r (xs.take n) (ys.take n) := by
  refine ⟨by rw [List.length_take, List.length_take, a.1], fun i u v p q => ?_⟩
  rw [List.getElem?_take] at p q
  split at p
  · rw [if_pos (by assumption)] at q; exact a.2 i u v p q
  · cases p
theorem All2.drop (a : All2 r xs ys) (n : Nat) : All2 r (xs.drop n) (ys.drop n) := by
  refine ⟨by rw [List.length_drop, List.length_drop, a.1], fun i u v p q => ?_⟩
  rw [List.getElem?_drop] at p q
  exact a.2 _ u v p q
end
class Dat (α : Type) where
  rep : Hp → V → α → Prop
  mono : ∀ {H H' : Hp} {v : V} {d : α}, Same H H' → rep H v d → rep H' v d
  py : α → PyData
  dp : ∀ {K : PySem.W.Frag} {H : Hp} {v : V} {d : α}, rep H v d → Dp K H v (py d)
  can : ∀ d, (py d).canLay0 = true
  dep : Nat
  depth : ∀ d, (py d).depth ≤ dep
  eqv : ∀ a b, PyData.eqv (py a) (py b) = true ↔ a = b
section
variable {α β γ : Type}
/-- v stands for d in H -/
abbrev Is [Dat α] (H : Hp) (v : V) (d : α) : Prop := Dat.rep H v d
theorem Is.up [Dat α] {H H' : Hp} {v : V} {d : α} (h : Is H v d) (s : Same H H') : Is H' v d := Dat.mono s h
abbrev IsAll [Dat α] (H : Hp) (xs : List V) (ds : List α) : Prop := All2 (fun v d => Is H v d) xs ds
theorem IsAll.up [Dat α] {H H' : Hp} {xs : List V} {ds : List α} (h : IsAll H xs ds) (s : Same H H') : IsAll H' xs ds := h.imp fun _ _ z => Is.up z s
theorem dp_all [Dat α] {K : PySem.W.Frag} {H : Hp} : ∀ {xs : List V} {ds : List α}, IsAll H xs ds → DpAll K H xs (ds.map Dat.py)
  | [], [], _ => .nil
  | [], d :: ds, h => by have := h.1; simp at this
  | x :: xs, [], h => by have := h.1; simp at this
  | x :: xs, d :: ds, h => .cons (Dat.dp (h.2 0 x d rfl rfl)) (dp_all ⟨by have := h.1; simpa using this, fun i a b p q => h.2 (i + 1) a b (by simpa using p) (by simpa using q)⟩)
theorem can_all [Dat α] : ∀ ds : List α, PyData.canLayAll0 (ds.map Dat.py) = true
  | [] => rfl
  | d :: ds => by
    show (PyData.canLay0 (Dat.py d) && PyData.canLayAll0 (ds.map Dat.py)) = true
    rw [Dat.can, can_all ds]; rfl
theorem depth_all [Dat α] : ∀ ds : List α, PyData.depthAll (ds.map Dat.py) ≤ Dat.dep α
  | [] => Nat.zero_le _
  | d :: ds => by
    show max (PyData.depth (Dat.py d)) (PyData.depthAll (ds.map Dat.py)) ≤ _
    exact Nat.max_le.mpr ⟨Dat.depth d, depth_all ds⟩
theorem eqv_all [Dat α] : ∀ a b : List α, PyData.eqvAll (a.map Dat.py) (b.map Dat.py) = true ↔ a = b
  | [], [] => by simp [PyData.eqvAll]
  | [], _ :: _ => by simp [PyData.eqvAll]
  | _ :: _, [] => by simp [PyData.eqvAll]
  | x :: xs, y :: ys => by
    rw [List.map_cons, List.map_cons, PyData.eqvAll, Bool.and_eq_true, Dat.eqv, eqv_all xs ys, List.cons.injEq]
instance : Dat Int where
  rep := fun _ v i => v = .int i
  mono := fun _ h => h
  py := .int
  dp := fun h => h ▸ .int _
  can := fun _ => rfl
  dep := 0
  depth := fun _ => Nat.le_refl _
  eqv := fun a b => by simp [PyData.eqv]
instance : Dat Bool where
  rep := fun _ v i => v = .bl i
  mono := fun _ h => h
  py := .bool
  dp := fun h => h ▸ .bl _
  can := fun _ => rfl
  dep := 0
  depth := fun _ => Nat.le_refl _
  eqv := fun a b => by simp [PyData.eqv]
/-- a list of data -/
instance [Dat α] : Dat (List α) where
  rep := fun H v l => ∃ a xs, v = .ref a ∧ H a = some (.lst xs) ∧ IsAll H xs l
  mono := fun s h => by
    obtain ⟨a, xs, e, h, i⟩ := h
    exact ⟨a, xs, e, s _ _ h, IsAll.up i s⟩
  py := fun l => .list (l.map Dat.py)
  dp := fun h => by
    obtain ⟨a, xs, rfl, h, i⟩ := h
    exact .lst (SqL.of h) (dp_all i)
  can := fun d => can_all d
  dep := Dat.dep α + 1
  depth := fun d => Nat.succ_le_succ (depth_all d)
  eqv := fun a b => by rw [PyData.eqv]; exact eqv_all a b
/-- a tuple of data of one kind -/
structure Tup (α : Type) where
  l : List α
  deriving DecidableEq
instance [Dat α] : Dat (Tup α) where
  rep := fun H v l => ∃ a xs, v = .ref a ∧ H a = some (.tup xs) ∧ IsAll H xs l.l
  mono := fun s h => by
    obtain ⟨a, xs, e, h, i⟩ := h
    exact ⟨a, xs, e, s _ _ h, IsAll.up i s⟩
  py := fun l => .tuple (l.l.map Dat.py)
  dp := fun h => by
    obtain ⟨a, xs, rfl, h, i⟩ := h
    exact .tup (SqT.of h) (dp_all i)
  can := fun d => can_all d.l
  dep := Dat.dep α + 1
  depth := fun d => Nat.succ_le_succ (depth_all d.l)
  eqv := fun a b => by
    rw [PyData.eqv, eqv_all]
    obtain ⟨a⟩ := a; obtain ⟨b⟩ := b
    simp
/-- a pair; a triple -/
structure T2 (α β : Type) where
  a : α
  b : β
  deriving DecidableEq
structure T3 (α β γ : Type) where
  a : α
  b : β
  c : γ
  deriving DecidableEq
instance [Dat α] [Dat β] : Dat (T2 α β) where
  rep := fun H v d => ∃ p x y, v = .ref p ∧ H p = some (.tup [x, y]) ∧ Is H x d.a ∧ Is H y d.b
  mono := fun s h => by
    obtain ⟨p, x, y, e, h, i, j⟩ := h
    exact ⟨p, x, y, e, s _ _ h, Is.up i s, Is.up j s⟩
  py := fun d => .tuple [Dat.py d.a, Dat.py d.b]
  dp := fun h => by
    obtain ⟨p, x, y, rfl, h, i, j⟩ := h
    exact .tup (SqT.of h) (.cons (Dat.dp i) (.cons (Dat.dp j) .nil))
  can := fun d => by
    show (PyData.canLay0 (Dat.py d.a) && (PyData.canLay0 (Dat.py d.b) && true)) = true
    rw [Dat.can, Dat.can]; rfl
  dep := max (Dat.dep α) (Dat.dep β) + 1
  depth := fun d => by
    have h1 := Dat.depth d.a
    have h2 := Dat.depth d.b
    show max (PyData.depth (Dat.py d.a)) (max (PyData.depth (Dat.py d.b)) 0) + 1 ≤ _
    omega
  eqv := fun a b => by
    obtain ⟨a, a'⟩ := a; obtain ⟨b, b'⟩ := b
    simp [PyData.eqv, PyData.eqvAll, Dat.eqv]
instance [Dat α] [Dat β] [Dat γ] : Dat (T3 α β γ) where
  rep := fun H v d => ∃ p x y z, v = .ref p ∧ H p = some (.tup [x, y, z]) ∧ Is H x d.a ∧ Is H y d.b ∧ Is H z d.c
  mono := fun s h => by
    obtain ⟨p, x, y, z, e, h, i, j, k⟩ := h
    exact ⟨p, x, y, z, e, s _ _ h, Is.up i s, Is.up j s, Is.up k s⟩
  py := fun d => .tuple [Dat.py d.a, Dat.py d.b, Dat.py d.c]
  dp := fun h => by
    obtain ⟨p, x, y, z, rfl, h, i, j, k⟩ := h
    exact .tup (SqT.of h) (.cons (Dat.dp i) (.cons (Dat.dp j) (.cons (Dat.dp k) .nil)))
  can := fun d => by
    show (PyData.canLay0 (Dat.py d.a) && (PyData.canLay0 (Dat.py d.b) && (PyData.canLay0 (Dat.py d.c) && true))) = true
    rw [Dat.can, Dat.can, Dat.can]; rfl
  dep := max (Dat.dep α) (max (Dat.dep β) (Dat.dep γ)) + 1
  depth := fun d => by
    have h1 := Dat.depth d.a
    have h2 := Dat.depth d.b
    have h3 := Dat.depth d.c
    show max (PyData.depth (Dat.py d.a)) (max (PyData.depth (Dat.py d.b)) (max (PyData.depth (Dat.py d.c)) 0)) + 1 ≤ _
    omega
  eqv := fun a b => by
    obtain ⟨a, a', a''⟩ := a; obtain ⟨b, b', b''⟩ := b
    simp [PyData.eqv, PyData.eqvAll, Dat.eqv]
/-- None, or a datum that is a tuple or a list -/
class Big (α : Type) [Dat α] : Prop where
  big : ∀ d : α, (∃ l, Dat.py d = .tuple l) ∨ ∃ l, Dat.py d = .list l
instance [Dat α] : Big (List α) := ⟨fun d => .inr ⟨_, rfl⟩⟩
instance [Dat α] : Big (Tup α) := ⟨fun d => .inl ⟨_, rfl⟩⟩
instance [Dat α] [Dat β] : Big (T2 α β) := ⟨fun d => .inl ⟨_, rfl⟩⟩
instance [Dat α] [Dat β] [Dat γ] : Big (T3 α β γ) := ⟨fun d => .inl ⟨_, rfl⟩⟩
instance [Dat α] [Big α] : Dat (Option α) where
  rep := fun H v d => match d with
    | none => v = .non
    | some d => Is H v d
  mono := fun {H H' v d} s h => by
    cases d with
    | none => exact h
    | some d => exact Is.up (show Is H v d from h) s
  py := fun d => match d with
    | none => .none
    | some d => Dat.py d
  dp := fun {K H v d} h => by
    cases d with
    | none => cases h; exact .non
    | some d => exact Dat.dp (show Is H v d from h)
  can := fun d => by
    cases d with
    | none => rfl
    | some d => exact Dat.can d
  dep := Dat.dep α
  depth := fun d => by
    cases d with
    | none => exact Nat.zero_le _
    | some d => exact Dat.depth d
  eqv := fun a b => by
    cases a with
    | none =>
      cases b with
      | none => exact ⟨fun _ => rfl, fun _ => rfl⟩
      | some b =>
        refine ⟨fun h => ?_, fun h => nomatch h⟩
        have h : PyData.eqv .none (Dat.py b) = true := h
        rcases Big.big b with ⟨l, e⟩ | ⟨l, e⟩ <;> (rw [e] at h; simp only [PyData.eqv] at h; cases h)
    | some a =>
      cases b with
      | none =>
        refine ⟨fun h => ?_, fun h => nomatch h⟩
        have h : PyData.eqv (Dat.py a) .none = true := h
        rcases Big.big a with ⟨l, e⟩ | ⟨l, e⟩ <;> (rw [e] at h; simp only [PyData.eqv] at h; cases h)
      | some b =>
        show PyData.eqv (Dat.py a) (Dat.py b) = true ↔ _
        rw [Dat.eqv, Option.some.injEq]
end
/-- == and != of data -/
theorem eq_dat0 {α : Type} [Dat α] [DecidableEq α] {a b : α} (hd : Dat.dep α ≤ 64) : SeqAt.shaped (Dat.py a) = true ∧ SeqAt.shaped (Dat.py b) = true ∧ PyData.eqv (Dat.py a) (Dat.py b) = decide (a = b) := by
  refine ⟨?_, ?_, ?_⟩
  · show (PyData.canLay0 _ && decide _) = true
    rw [Dat.can, decide_eq_true (Nat.le_trans (Dat.depth a) hd)]; rfl
  · show (PyData.canLay0 _ && decide _) = true
    rw [Dat.can, decide_eq_true (Nat.le_trans (Dat.depth b) hd)]; rfl
  · rw [Bool.eq_iff_iff, Dat.eqv, decide_eq_true_iff]
theorem eq_dat {α : Type} [Dat α] [DecidableEq α] {K : PySem.W.Frag} {H : Hp} {x y : V} {a b : α} {Q : VK} (ha : Is H x a) (hb : Is H y b) (q : Q (.bl (decide (a = b))) H) (hd : Dat.dep α ≤ 64 := by decide) : rEqD K x y H Q := by
  obtain ⟨h1, h2, h3⟩ := eq_dat0 (a := a) (b := b) hd
  exact ⟨Dat.py a, Dat.py b, Dat.dp ha, Dat.dp hb, h1, h2, by rw [h3]; exact q⟩
theorem ne_dat {α : Type} [Dat α] [DecidableEq α] {K : PySem.W.Frag} {H : Hp} {x y : V} {a b : α} {Q : VK} (ha : Is H x a) (hb : Is H y b) (q : Q (.bl (!decide (a = b))) H) (hd : Dat.dep α ≤ 64 := by decide) : rNeD K x y H Q := by
  obtain ⟨h1, h2, h3⟩ := eq_dat0 (a := a) (b := b) hd
  exact ⟨Dat.py a, Dat.py b, Dat.dp ha, Dat.dp hb, h1, h2, by rw [h3]; exact q⟩
/-! ### machines -/
/-- an entry -/
inductive Ent where
  | emp
  | go (put way row : Int)
  deriving DecidableEq
def entO : Ent → HO
  | .emp => .tup []
  | .go p w r => .tup [.int p, .int w, .int r]
def entP : Ent → PyData
  | .emp => .tuple []
  | .go p w r => .tuple [.int p, .int w, .int r]
instance : Dat Ent where
  rep := fun H v e => ∃ a, v = .ref a ∧ H a = some (entO e)
  mono := fun s h => by obtain ⟨a, e, h⟩ := h; exact ⟨a, e, s _ _ h⟩
  py := entP
  dp := fun {K H v d} h => by
    obtain ⟨a, rfl, h⟩ := h
    cases d with
    | emp => exact .tup (SqT.of h) .nil
    | go p w r => exact .tup (SqT.of h) (.cons (.int _) (.cons (.int _) (.cons (.int _) .nil)))
  can := fun d => by cases d <;> rfl
  dep := 1
  depth := fun d => by cases d <;> simp [entP, PyData.depth, PyData.depthAll]
  eqv := fun a b => by cases a <;> cases b <;> simp [entP, PyData.eqv, PyData.eqvAll]
instance : Big Ent := ⟨fun d => by cases d <;> exact .inl ⟨_, rfl⟩⟩
abbrev Mach := List (List Ent)
/-! ### pairs of ints: a dict's items, sorted ones -/
abbrev PI := T2 Int Int
def dI (l : List PI) : List (Key × V) := l.map fun p => (Sum.inl p.a, V.int p.b)
def look (l : List PI) (x : Int) : Option Int := (l.find? fun p => decide (p.a = x)).map (·.b)
def put (l : List PI) (x v : Int) : List PI := if (l.any fun p => decide (p.a = x)) = true then l.map (fun p => if p.a = x then ⟨p.a, v⟩ else p) else l ++ [⟨x, v⟩]
def merge (l m : List PI) : List PI := m.foldl (fun acc p => put acc p.a p.b) l
theorem key_inl (a b : Int) : ((Sum.inl a : Key) = Sum.inl b) = (a = b) := propext ⟨Sum.inl.inj, fun h => by rw [h]⟩
theorem dI_val (x : Int) : ∀ l : List PI, valV (dI l) (Sum.inl x) = (look l x).map V.int
  | [] => rfl
  | p :: l => by
    have ih := dI_val x l
    show valV ((Sum.inl p.a, V.int p.b) :: dI l) (Sum.inl x) = _
    by_cases e : p.a = x
    · rw [valV_pos (by rw [key_inl]; exact e)]
      simp [look, e]
    · rw [valV_neg (by rw [key_inl]; exact e), ih]
      simp [look, e]
theorem dI_put (l : List PI) (x v : Int) : putK (dI l) (Sum.inl x) (.int v) = dI (put l x v) := by
  have e : ((dI l).any fun kv => decide (kv.1 = Sum.inl x)) = (l.any fun p => decide (p.a = x)) := by
    unfold dI
    rw [List.any_map]
    congr 1
    funext p
    simp only [Function.comp, key_inl]
  unfold putK put
  rw [e]
  by_cases a : (l.any fun p => decide (p.a = x)) = true
  · rw [if_pos a, if_pos a]
    unfold dI
    rw [List.map_map, List.map_map]
    congr 1
    funext p
    simp only [Function.comp, key_inl]
    by_cases h : p.a = x
    · rw [if_pos h, if_pos h]
    · rw [if_neg h, if_neg h]
  · rw [if_neg a, if_neg a]
    unfold dI
    rw [List.map_append]
    rfl
theorem dI_merge (m : List PI) : ∀ l : List PI, mergeK (dI l) (dI m) = dI (merge l m) := by
  induction m with
  | nil => intro l; rfl
  | cons p m ih =>
    intro l
    show mergeK (putK (dI l) (Sum.inl p.a) (.int p.b)) (dI m) = dI (merge (put l p.a p.b) m)
    rw [dI_put]
    exact ih _
theorem look_nil (x : Int) : look [] x = none := rfl
theorem look_cons (p : PI) (l : List PI) (x : Int) : look (p :: l) x = if p.a = x then some p.b else look l x := by
  unfold look
  rw [List.find?_cons]
  by_cases e : p.a = x
  · simp [e]
  · simp [e]
theorem look_any (x : Int) : ∀ l : List PI, (l.any fun p => decide (p.a = x)) = (look l x).isSome
  | [] => rfl
  | p :: l => by
    rw [List.any_cons, look_any x l, look_cons]
    by_cases e : p.a = x
    · simp [e]
    · simp [e]
theorem look_map (x y v : Int) : ∀ l : List PI, look (l.map fun p => if p.a = x then ⟨p.a, v⟩ else p) y = (look l y).map fun z => if y = x then v else z
  | [] => rfl
  | p :: l => by
    rw [List.map_cons, look_cons, look_cons, look_map x y v l]
    by_cases e : p.a = x
    · rw [if_pos e]
      by_cases f : p.a = y
      · rw [if_pos f, if_pos f]
        rw [← f, Option.map_some, if_pos e]
      · rw [if_neg f, if_neg f]
    · rw [if_neg e]
      by_cases f : p.a = y
      · rw [if_pos f, if_pos f, Option.map_some, if_neg (by rw [← f]; exact e)]
      · rw [if_neg f, if_neg f]
theorem look_app (l m : List PI) (x : Int) : look (l ++ m) x = (look l x).or (look m x) := by
  induction l with
  | nil => rfl
  | cons p l ih =>
    rw [List.cons_append, look_cons, look_cons, ih]
    by_cases e : p.a = x
    · rw [if_pos e, if_pos e]; rfl
    · rw [if_neg e, if_neg e]
theorem look_put (l : List PI) (x v y : Int) : look (put l x v) y = if y = x then some v else look l y := by
  unfold put
  by_cases a : (l.any fun p => decide (p.a = x)) = true
  · rw [if_pos a, look_map]
    by_cases e : y = x
    · rw [if_pos e, e]
      rw [look_any] at a
      obtain ⟨z, hz⟩ := Option.isSome_iff_exists.mp a
      rw [hz, Option.map_some, if_pos rfl]
    · rw [if_neg e]
      cases look l y with
      | none => rfl
      | some z => rw [Option.map_some, if_neg e]
  · rw [if_neg a, look_app]
    rw [look_any] at a
    by_cases e : y = x
    · rw [if_pos e, e]
      cases h : look l x with
      | none => rw [look_cons, if_pos rfl]; rfl
      | some z => rw [h] at a; exact absurd rfl a
    · rw [if_neg e, look_cons, if_neg (fun z => e z.symm), look_nil]
      cases look l y <;> rfl
/-- no place twice -/
def Nd (l : List PI) : Prop := (l.map (·.a)).Nodup
theorem look_none {l : List PI} {x : Int} : look l x = none ↔ x ∉ l.map (·.a) := by
  induction l with
  | nil => simp [look_nil]
  | cons p l ih =>
    rw [look_cons, List.map_cons, List.mem_cons]
    by_cases e : p.a = x
    · rw [if_pos e]; simp [e]
    · rw [if_neg e, ih]
      constructor
      · intro h z
        rcases z with z | z
        · exact e z.symm
        · exact h z
      · intro h z
        exact h (.inr z)
theorem look_mem {l : List PI} (h : Nd l) {p : PI} (m : p ∈ l) : look l p.a = some p.b := by
  induction l with
  | nil => cases m
  | cons q l ih =>
    have h' := List.nodup_cons.mp h
    rw [look_cons]
    rcases List.mem_cons.mp m with rfl | m
    · rw [if_pos rfl]
    · rw [if_neg (fun e => h'.1 (by show q.a ∈ _; rw [e]; exact List.mem_map.mpr ⟨p, m, rfl⟩))]
      exact ih h'.2 m
theorem mem_look {l : List PI} {x v : Int} (h : look l x = some v) : (⟨x, v⟩ : PI) ∈ l := by
  induction l with
  | nil => cases h
  | cons q l ih =>
    rw [look_cons] at h
    by_cases e : q.a = x
    · rw [if_pos e] at h
      cases h
      subst e
      exact List.mem_cons_self
    · rw [if_neg e] at h
      exact List.mem_cons_of_mem _ (ih h)
theorem nd_put {l : List PI} (h : Nd l) (x v : Int) : Nd (put l x v) := by
  unfold put
  by_cases a : (l.any fun p => decide (p.a = x)) = true
  · rw [if_pos a]
    unfold Nd
    rw [List.map_map]
    have e : ((fun p : PI => p.a) ∘ fun p : PI => if p.a = x then (⟨p.a, v⟩ : PI) else p) = fun p : PI => p.a := by
      funext p
      simp only [Function.comp]
      split <;> rfl
    rw [e]; exact h
  · rw [if_neg a]
    unfold Nd
    rw [List.map_append]
    refine nd_snoc h ?_
    rw [look_any] at a
    refine look_none.mp ?_
    cases q : look l x with
    | none => rfl
    | some z => rw [q] at a; exact absurd rfl a
theorem put_new {l : List PI} {x : Int} (v : Int) (h : look l x = none) : put l x v = l ++ [⟨x, v⟩] := by
  unfold put
  rw [look_any, h]
  rfl
theorem merge_nd {m : List PI} : ∀ {l : List PI}, Nd (l ++ m) → merge l m = l ++ m := by
  induction m with
  | nil => intro l _; simp [merge]
  | cons p m ih =>
    intro l h
    have e : l ++ p :: m = (l ++ [p]) ++ m := by simp
    have hn : look l p.a = none := by
      refine look_none.mpr fun z => ?_
      unfold Nd at h
      rw [List.map_append] at h
      exact (List.nodup_append.mp h).2.2 _ z _ (by rw [List.map_cons]; exact List.mem_cons_self) rfl
    show merge (put l p.a p.b) m = _
    rw [put_new _ hn, e]
    exact ih (by rw [← e]; exact h)
theorem nd_nil : Nd [] := List.nodup_nil
theorem put_len (l : List PI) (x v : Int) : (put l x v).length ≤ l.length + 1 := by
  unfold put
  split
  · rw [List.length_map]; omega
  · rw [List.length_append]; exact Nat.le_refl _
/-- Python's order of pairs -/
def leP (p q : PI) : Bool := decide (p.a < q.a) || (decide (p.a = q.a) && decide (p.b ≤ q.b))
theorem leP_iff {p q : PI} : leP p q = true ↔ p.a < q.a ∨ (p.a = q.a ∧ p.b ≤ q.b) := by simp [leP]
def ins (p : PI) : List PI → List PI
  | [] => [p]
  | q :: l => if leP p q = true then p :: q :: l else q :: ins p l
def srt (l : List PI) : List PI := l.foldr ins []
theorem ins_perm (p : PI) : ∀ l : List PI, (ins p l).Perm (p :: l)
  | [] => List.Perm.refl _
  | q :: l => by
    unfold ins
    split
    · exact List.Perm.refl _
    · exact (List.Perm.cons q (ins_perm p l)).trans (List.Perm.swap p q l)
theorem srt_perm : ∀ l : List PI, (srt l).Perm l
  | [] => List.Perm.refl _
  | p :: l => (ins_perm p (srt l)).trans ((srt_perm l).cons p)
abbrev LeP (p q : PI) : Prop := leP p q = true
theorem leP_trans {p q r : PI} (h1 : LeP p q) (h2 : LeP q r) : LeP p r := by
  have a := leP_iff.mp h1
  have b := leP_iff.mp h2
  exact leP_iff.mpr (by omega)
theorem leP_total (p q : PI) : LeP p q ∨ LeP q p := by
  show leP p q = true ∨ leP q p = true
  rw [leP_iff, leP_iff]
  omega
theorem ins_srt (p : PI) : ∀ {l : List PI}, l.Pairwise LeP → (ins p l).Pairwise LeP
  | [], _ => List.pairwise_singleton _ _
  | q :: l, h => by
    have h' := List.pairwise_cons.mp h
    unfold ins
    split
    · rename_i e
      refine List.pairwise_cons.mpr ⟨fun x m => ?_, h⟩
      rcases List.mem_cons.mp m with rfl | m
      · exact e
      · exact leP_trans e (h'.1 x m)
    · rename_i e
      refine List.pairwise_cons.mpr ⟨fun x m => ?_, ins_srt p h'.2⟩
      rcases List.mem_cons.mp ((ins_perm p l).mem_iff.mp m) with rfl | m
      · rcases leP_total q x with z | z
        · exact z
        · exact absurd z e
      · exact h'.1 x m
theorem srt_srt : ∀ l : List PI, (srt l).Pairwise LeP
  | [] => List.Pairwise.nil
  | p :: l => ins_srt p (srt_srt l)
theorem leP_anti {p q : PI} (h1 : LeP p q) (h2 : LeP q p) : p = q := by
  have a := leP_iff.mp h1
  have b := leP_iff.mp h2
  obtain ⟨x, y⟩ := p
  obtain ⟨x', y'⟩ := q
  have e1 : x = x' := by show x = x'; simp only at a b; omega
  have e2 : y = y' := by simp only at a b; omega
  rw [e1, e2]
/-- there is one sorted list of them -/
theorem srt_uniq : ∀ {l m : List PI}, l.Pairwise LeP → m.Pairwise LeP → l.Perm m → l = m
  | [], m, _, _, h => (List.Perm.eq_nil h.symm).symm
  | x :: l, [], _, _, h => absurd h.length_eq (by simp)
  | x :: l, y :: m, hl, hm, h => by
    have l' := List.pairwise_cons.mp hl
    have m' := List.pairwise_cons.mp hm
    have h1 : LeP y x := by
      rcases List.mem_cons.mp (h.mem_iff.mp (List.mem_cons_self (a := x) (l := l))) with e | z
      · rw [e]; rcases leP_total y y with z | z <;> exact z
      · exact m'.1 x z
    have h2 : LeP x y := by
      rcases List.mem_cons.mp (h.mem_iff.mpr (List.mem_cons_self (a := y) (l := m))) with e | z
      · rw [e]; rcases leP_total x x with z | z <;> exact z
      · exact l'.1 y z
    have e := leP_anti h2 h1
    subst e
    rw [srt_uniq l'.2 m'.2 h.cons_inv]
theorem srt_of {l m : List PI} (h : m.Pairwise LeP) (p : m.Perm l) : m = srt l := srt_uniq h (srt_srt l) (p.trans (srt_perm l).symm)
/-- what a value says as a pair, read off the heap -/
def pOf (H : Hp) : V → Int × Int
  | .ref t => match H t with
    | some (.tup [.int i, .int j]) => (i, j)
    | _ => (0, 0)
  | _ => (0, 0)
theorem pOf_is {H : Hp} {v : V} {d : PI} (h : Is H v d) : ∃ t, v = .ref t ∧ H t = some (.tup [.int (pOf H v).1, .int (pOf H v).2]) ∧ d = ⟨(pOf H v).1, (pOf H v).2⟩ := by
  obtain ⟨t, x, y, rfl, h1, h2, h3⟩ := h
  have h2 : x = .int d.a := h2
  have h3 : y = .int d.b := h3
  subst h2
  subst h3
  have e : pOf H (.ref t) = (d.a, d.b) := by simp only [pOf, h1]
  exact ⟨t, rfl, by rw [e]; exact h1, by rw [e]⟩
theorem all_of {H : Hp} : ∀ {xs : List V} {l : List PI}, IsAll H xs l → l = xs.map fun v => (⟨(pOf H v).1, (pOf H v).2⟩ : PI) := fun {xs l} h => by
  refine List.ext_getElem? fun i => ?_
  rw [List.getElem?_map]
  cases e : xs[i]? with
  | none =>
    have := List.getElem?_eq_none_iff.mp e
    exact List.getElem?_eq_none_iff.mpr (by rw [← h.1]; exact this)
  | some x =>
    obtain ⟨d, hd, hx⟩ := h.get' e
    obtain ⟨t, _, _, q⟩ := pOf_is hx
    rw [hd, q]
    rfl
/-- sorted of a list of pairs -/
theorem sort_pairs {K : PySem.W.Frag} {F H : Hp} {a : Addr} {xs : List V} {l : List PI} {Q : VK} (sF : Same F H) (hx : IsAll F xs l) (ha : SqL K H a xs) (q : ∀ ys p, H p = none → IsAll F ys (srt l) → Q (.ref p) (upd H p (.lst ys))) : rSortQ K [.ref a] H Q := by
  unfold rSortQ
  refine ⟨a, xs, pOf F, rfl, ha, fun x m => ?_, fun ys p hs hb np => q ys p np ?_⟩
  · obtain ⟨i, hi⟩ := List.getElem?_of_mem m
    obtain ⟨d, _, hd⟩ := hx.get' hi
    obtain ⟨t, e, h, _⟩ := pOf_is hd
    exact ⟨t, e, sF _ _ h⟩
  · have el := all_of hx
    have hys : IsAll F ys (ys.map fun v => (⟨(pOf F v).1, (pOf F v).2⟩ : PI)) := by
      refine ⟨by rw [List.length_map], fun i x y h1 h2 => ?_⟩
      rw [List.getElem?_map, h1] at h2
      cases h2
      have m : x ∈ xs := hb.perm.mem_iff.mp (List.mem_of_getElem? h1)
      obtain ⟨j, hj⟩ := List.getElem?_of_mem m
      obtain ⟨d, _, hd⟩ := hx.get' hj
      obtain ⟨t, e, h, e2⟩ := pOf_is hd
      exact ⟨t, _, _, e, h, rfl, rfl⟩
    have es : (ys.map fun v => (⟨(pOf F v).1, (pOf F v).2⟩ : PI)) = srt l := by
      refine srt_of ?_ ?_
      · refine List.pairwise_map.mpr (List.Pairwise.imp (fun {x y} h => ?_) hs)
        have h := SrtO.lexB_no.mp h
        exact leP_iff.mpr (by simp only; omega)
      · rw [el]
        exact hb.perm.map _
    rw [es] at hys
    exact hys
theorem pairs_of {K : PySem.W.Frag} {H : Hp} : ∀ {xs : List V} {l : List PI}, IsAll H xs l → ∃ ps : List Addr, xs = ps.map V.ref ∧ Paired (fun p kv => SqT K H p [kV kv.1, kv.2]) ps (dI l)
  | [], [], _ => ⟨[], rfl, .nil⟩
  | [], d :: l, h => by have := h.1; simp at this
  | x :: xs, [], h => by have := h.1; simp at this
  | x :: xs, d :: l, h => by
    obtain ⟨t, x1, x2, e, h1, h2, h3⟩ := h.2 0 x d rfl rfl
    have h2 : x1 = .int d.a := h2
    have h3 : x2 = .int d.b := h3
    subst h2
    subst h3
    obtain ⟨ps, e2, p⟩ := pairs_of (K := K) (xs := xs) (l := l) ⟨by have := h.1; simpa using this, fun i a b p q => h.2 (i + 1) a b (by simpa using p) (by simpa using q)⟩
    exact ⟨t :: ps, by rw [e, e2]; rfl, .cons (SqT.of h1) p⟩
/-- dict(pairs) -/
theorem dict_pairs {K : PySem.W.Frag} {H : Hp} {a : Addr} {xs : List V} {l : List PI} {Q : VK} (hx : IsAll H xs l) (ha : SqL K H a xs) (q : ∀ p, H p = none → Q (.ref p) (upd H p (.dK (dI (merge [] l))))) : rDictP K [.ref a] H Q := by
  unfold rDictP
  obtain ⟨ps, e, p⟩ := pairs_of (K := K) hx
  refine ⟨a, ps, dI l, rfl, by rw [← e]; exact ha, p, fun d nd => ?_⟩
  have e2 : mergeK [] (dI l) = dI (merge [] l) := dI_merge l []
  rw [e2]
  exact q d nd
/-! ### a dict under its lock -/
theorem lock_in {F H : Hp} {d : Addr} {o : HO} (s : Same F H) : Same (fun c => if c = d then none else F c) (upd H d o) := fun c u h => by
  by_cases e : c = d
  · simp only [e, if_true] at h; cases h
  · simp only [e, if_false] at h
    rw [upd_ne e]; exact s c u h
theorem lock_out {F H F2 H2 : Hp} {d : Addr} {o u : HO} (s : Same F H) (h : H d = some u) (g : Gr mu0 (fun c => if c = d then none else F c) (upd H d o) F2 H2) :
    H2 d = some o ∧ Same F2 (fun c => if c = d then F d else F2 c) ∧ Gr mu0 F H (fun c => if c = d then F d else F2 c) (upd H2 d u) := by
  have n2 : F2 d = none := by
    cases e : F2 d with
    | none => rfl
    | some z =>
      rcases g.nw d z e with k | k
      · simp only [if_true] at k; cases k
      · rw [upd_same] at k; cases k
  refine ⟨g.fr d o upd_same (fun z => z), fun c z e => ?_, ⟨fun c z e => ?_, fun c z e => ?_, fun c z e => ?_, fun c z e m => ?_, fun c e => ?_⟩⟩
  · by_cases k : c = d
    · rw [k, n2] at e; cases e
    · simp only [k, if_false]; exact e
  · by_cases k : c = d
    · simp only [k, if_true]; rw [← k]; exact e
    · simp only [k, if_false]
      exact g.ff c z (by simp only [k, if_false]; exact e)
  · by_cases k : c = d
    · simp only [k, if_true] at e
      rw [k, upd_same, ← h]
      exact s d z e
    · simp only [k, if_false] at e
      rw [upd_ne k]; exact g.fh c z e
  · by_cases k : c = d
    · simp only [k, if_true] at e
      exact .inl (by rw [k]; exact e)
    · simp only [k, if_false] at e
      rcases g.nw c z e with q | q
      · simp only [k, if_false] at q; exact .inl q
      · rw [upd_ne k] at q; exact .inr q
  · by_cases k : c = d
    · rw [k, upd_same]; rw [k, h] at e; exact e
    · rw [upd_ne k]
      exact g.fr c z (by rw [upd_ne k]; exact e) (fun z => z)
  · by_cases k : c = d
    · rw [k, upd_same] at e; cases e
    · rw [upd_ne k] at e
      have q := g.th c e
      rw [upd_ne k] at q; exact q
/-- the signs that aren't 0, in order -/
def nz (p : PI) : Bool := decide (p.b ≠ 0)
def told (l : List PI) : List PI := srt (l.filter nz)
theorem dI_get {l : List PI} {i : Nat} (h : i < l.length) : (dI l)[i]? = some (Sum.inl l[i].a, V.int l[i].b) := by
  unfold dI
  rw [List.getElem?_map, List.getElem?_eq_getElem h]
  rfl
theorem filter_take_succ {l : List PI} {f : PI → Bool} {i : Nat} (h : i < l.length) : (l.take (i + 1)).filter f = (l.take i).filter f ++ (if f l[i] = true then [l[i]] else []) := by
  rw [List.take_add_one, List.getElem?_eq_getElem h, List.filter_append]
  show _ ++ List.filter f [l[i]] = _
  rw [List.filter_cons]
  split <;> rfl
theorem nd_srt {l : List PI} (h : Nd l) : Nd (srt l) := ((srt_perm l).map (fun p : PI => p.a)).nodup_iff.mpr h
theorem mem_srt {l : List PI} {q : PI} : q ∈ srt l ↔ q ∈ l := (srt_perm l).mem_iff
theorem mem_put {l : List PI} {x v : Int} {q : PI} (m : q ∈ put l x v) : q ∈ l ∨ q = ⟨x, v⟩ := by
  unfold put at m
  split at m
  · obtain ⟨z, hz, e⟩ := List.mem_map.mp m
    split at e
    · rename_i h1 h2
      exact .inr (by rw [← e, h2])
    · exact .inl (by rw [← e]; exact hz)
  · rcases List.mem_append.mp m with m | m
    · exact .inl m
    · exact .inr (List.mem_singleton.mp m)
/-! ### sorted(d.items()), d a dict of ints to ints -/
section
open PySem.Spec PyProof.Rows
variable {X : Cx}
/-- many new things are tracked at once -/
theorem inv_many {pins : List (Addr × Obj)} {σ : L2.St} {H H' : Hp} {s : Shared} {h' : Heap} {tk : Nat} {as : List Addr} (I : Inv X pins σ H s) (k : ∀ b o, s.heap.get? b = some o → h'.get? b = some o) (hp : ∀ a ∈ as, s.heap.objs.size ≤ a)
    (p1 : ∀ b, b ∉ as → H' b = H b) (p2 : ∀ b ∈ as, ∀ o, H' b = some o → ObjOk X.prog X.w H' h' b o) : Inv X pins σ H' { s with heap := h', toks := tk } := by
  have old : ∀ b o, s.heap.get? b = some o → b ∉ as := fun b o e z => Nat.lt_irrefl _ (Nat.lt_of_lt_of_le (Heap.lt_size e) (hp b z))
  have trc : ∀ b o, H b = some o → b ∉ as := fun b o e z => by
    have := I.hok.lt e
    exact Nat.lt_irrefl _ (Nat.lt_of_lt_of_le this (hp b z))
  have kp : ∀ b o, H b = some o → H' b = some o := fun b o e => by rw [p1 b (trc b o e)]; exact e
  refine I.un ⟨fun b o q _ _ _ => k b o q, fun b o q _ _ _ => ⟨o.slots, k b o q⟩, fun b o q n _ => by rw [p1 b (old b o q)]; exact n, fun b o q _ => ⟨o, k b o q⟩, fun b xs e => kp b _ e, fun b o u e => kp b _ e, fun b ps e => ⟨#[], by rw [kp b _ e]; simp⟩⟩ fun b o e => ?_
  by_cases m : b ∈ as
  · exact p2 b m o e
  · rw [p1 b m] at e
    exact (I.hok b o e).stay (fun c u _ q => k c u q) (fun c q => kp c _ q) fun c xs q => kp c _ q
/-- the pair that stands at a -/
def pzAt (zs : List (Addr × PI)) (a : Addr) : Option PI := (zs.find? fun z => decide (z.1 = a)).map (·.2)
theorem pzAt_ix : ∀ {zs : List (Addr × PI)}, (zs.map (·.1)).Nodup → ∀ {j : Nat} {z : Addr × PI}, zs[j]? = some z → pzAt zs z.1 = some z.2
  | [], _, j, z, h => by cases h
  | y :: ys, nd, 0, z, h => by
    have e := Option.some.inj h
    subst e
    simp [pzAt]
  | y :: ys, nd, j + 1, z, h => by
    have nd' := List.nodup_cons.mp nd
    have m : z.1 ∈ ys.map (·.1) := List.mem_map.mpr ⟨z, List.mem_of_getElem? (show ys[j]? = some z from h), rfl⟩
    have ih := pzAt_ix nd'.2 (show ys[j]? = some z from h)
    have ne : ¬ y.1 = z.1 := fun e => nd'.1 (by show y.1 ∈ _; rw [e]; exact m)
    unfold pzAt at ih ⊢
    rw [List.find?_cons, decide_eq_false ne]
    exact ih
theorem pzAt_no {zs : List (Addr × PI)} {a : Addr} (h : a ∉ zs.map (·.1)) : pzAt zs a = none := by
  unfold pzAt
  rw [List.find?_eq_none.mpr fun z m e => h (List.mem_map.mpr ⟨z, m, of_decide_eq_true e⟩)]
  rfl
def trk (H : Hp) (B : Addr) (L : HO) (zs : List (Addr × PI)) : Hp := fun b => if b = B then some L else match pzAt zs b with
  | some q => some (.tup [.int q.a, .int q.b])
  | none => H b
def adOf : Value → Addr
  | .ref a => a
  | _ => 0
@[irreducible] def rSortIt : V → Hp → VK → Prop := fun x H Q => ∃ (d : Addr) (l : List PI), x = .ref d ∧ H d = some (.dK (dI l)) ∧
  ∀ (H' : Hp) (p : Addr) (ys : List Addr), Same H H' → H p = none → (∀ t ∈ ys, H t = none) → p ∉ ys → (∀ b, b ≠ p → b ∉ ys → H' b = H b) → H' p = some (.lst (ys.map V.ref)) → All2 (fun t (q : PI) => H' t = some (.tup [.int q.a, .int q.b])) ys (srt l) → Q (.ref p) H'
def tSortIt (te : TE) : TE := fun σ H Q => te σ H fun x H1 => rSortIt x H1 Q
theorem pe_sortedItems {e : Expr} {te : TE} {p apos cpos pos : Pos} (hc : X.calm = true) (he : PE X e te) (hg : Gl X "sorted") (hm : X.mg "sorted" = none) (hv : bootBuiltins "sorted" = some (.builtin "sorted")) (hbase : attributeBase e "items" X.env (eval e X.env) = eval e X.env := by rfl) (hline : (apos.endLine == cpos.line) = true := by rfl)
    (hs : starEach [.Call (.Attribute e "items" apos) [] [] cpos] X.env = (false, eval (.Call (.Attribute e "items" apos) [] [] cpos) X.env) :: starEach [] X.env := by rfl) :
    PE X (.Call (.Name "sorted" p) [.Call (.Attribute e "items" apos) [] [] cpos] [] pos) (tSortIt te) := by
  refine ⟨fun pins s σ H Q I hq => ?_⟩
  refine wpAny_Call_Name_kw (ld_blt I hg hm hv ?_)
  refine PyProof.Rows.callWith_builtin1 ?_ hs rfl
  rw [hs]
  show wpAny _ _ (spliced ((false, eval (.Call (.Attribute e "items" apos) [] [] cpos) X.env) :: backTo pos (starEach [] X.env))) _ _ s
  refine Calls.spliced_cons ?_
  refine wpAny_Call_method (T := "dict") (id := "dict.items") hbase rfl hline F.plainAttrs_dict F.slot_dict_items F.type_dict_items (thn (he.run pins s σ H _ I hq) fun u s1 ⟨x, H1, I1, rx, q⟩ => ?_)
  unfold rSortIt at q
  obtain ⟨d, l, rfl, hd, q⟩ := q
  obtain rfl : u = Value.ref d := rx
  obtain ⟨hz, hs0, vs, kv, hdo⟩ := I1.hok d _ hd
  obtain ⟨ep, hat⟩ := hdo.dictAt
  have lk : (dI l).length = vs.length := Paired.length kv
  have ll : (dI l).length = l.length := by unfold dI; rw [List.length_map]
  refine ⟨hdo.typeIs, hdo.mapOf.noDict, ?_⟩
  show wpAny _ _ (callWith cpos (.builtin "dict.items") [.ref d] [] []) _ X.xe s1
  refine method_meetsIn F.slot_dict_items F.entry_dict_items rfl (PySem.evalArgs_none ⟨rfl, hdo.typeIs, F.args_dict_items_1 _, _, meets_dict_items (mixKind X.prog X.w) d hs0, ⟨vs, hdo⟩, ?_⟩)
  refine Calls.spliced_nil ?_
  have I2 : Inv X pins σ H1 { s1 with heap := s1.heap.push { cls := .type "dict_items", data := .fields #[.ref d] } } := I1.kept (t' := s1.toks) fun b ob q => Heap.get?_push_of_some _ q
  have hB : ((H1 d).isSome) = true := by rw [hd]; rfl
  refine Calls.call_function_entry kind_sorted plain_sorted entry_sorted (args_sorted1 _) (by
    unfold Builtin.«sorted»
    refine wpAny_bind (m := checkCount "sorted" 1 1 _) (wpAny_pure (wpAny_bind (PySem.W.kdx_collect (knd := mixKind X.prog X.w) (kvs := vs) (ep := ep) (I1.ok.hd hc) ⟨_, Heap.get?_push_size _ rfl, rfl, rfl⟩ (hat.push _) (by omega) fun h1 tk as hk hl hG => ?_)))
    refine wpAny_bind (wpAny_newList ?_ (by rw [List.length_map, hl]; omega))
    -- the pairs' tuples: at as
    have nd : as.Nodup := hG.rise.imp fun {a b} h => Nat.ne_of_lt h
    have lz : (as.zip l).map (·.1) = as := List.map_fst_zip (by omega)
    have zx : ∀ (j : Nat) (a : Addr), as[j]? = some a → ∃ (q : PI) (t u : Tok), l[j]? = some q ∧ pzAt (as.zip l) a = some q ∧ h1.get? a = some { cls := .type "tuple", data := .seq #[.int q.a t, .int q.b u] } := fun j a h => by
      obtain ⟨key, k, x, e1, e2, e3⟩ := hG.pairs j a h
      have jl : j < l.length := by have := (List.getElem?_eq_some_iff.mp h).1; omega
      have lj : l[j]? = some l[j] := List.getElem?_eq_getElem jl
      obtain ⟨y, e4, e5, e6⟩ := LiI.paired_get kv (dI_get jl)
      rw [e1] at e4
      have e4 := Option.some.inj e4
      subst e4
      obtain ⟨i, tk1, e7, rfl⟩ | ⟨z, tk1, e7, _⟩ := keyIs_shape (show keyIs k key = true from e2)
      · have e5 : Sum.inl l[j].a = k := e5
        rw [e7] at e5
        have e5 := Sum.inl.inj e5
        subst e5
        obtain ⟨tk2, e6⟩ := (show RelV (.int l[j].b) x from e6)
        subst e6
        exact ⟨l[j], tk1, tk2, lj, pzAt_ix (zs := as.zip l) (by rw [lz]; exact nd) (j := j) (z := (a, l[j])) (List.getElem?_zip_eq_some.mpr ⟨h, lj⟩), e3⟩
      · have e5 : Sum.inl l[j].a = k := e5
        rw [e7] at e5
        cases e5
    have zm : ∀ a ∈ as, ∃ (q : PI) (t u : Tok), pzAt (as.zip l) a = some q ∧ h1.get? a = some { cls := .type "tuple", data := .seq #[.int q.a t, .int q.b u] } := fun a m => by
      obtain ⟨j, hj⟩ := List.getElem?_of_mem m
      obtain ⟨q, t, u, _, h2, h3⟩ := zx j a hj
      exact ⟨q, t, u, h2, h3⟩
    have lm : as.map (fun a => (pzAt (as.zip l) a).getD ⟨0, 0⟩) = l := by
      refine List.ext_getElem? fun j => ?_
      rw [List.getElem?_map]
      cases hj : as[j]? with
      | none =>
        have := List.getElem?_eq_none_iff.mp hj
        exact (List.getElem?_eq_none_iff.mpr (by omega)).symm
      | some a =>
        obtain ⟨q, t, u, h1, h2, _⟩ := zx j a hj
        rw [h1, Option.map_some, h2]; rfl
    generalize ezs : as.zip l = zs at zx zm lm lz
    have s12 : (s1.heap.push { cls := .type "dict_items", data := .fields #[.ref d] }).objs.size ≤ h1.objs.size := by
      have := Heap.lt_size (hk _ _ (Heap.get?_push_size s1.heap rfl))
      rw [Heap.size_push]; exact this
    have Bn : h1.objs.size ∉ as := fun z => Nat.lt_irrefl _ (hG.there z)
    let kk : Value → Int × Int := fun v => (((pzAt zs (adOf v)).getD ⟨0, 0⟩).a, ((pzAt zs (adOf v)).getD ⟨0, 0⟩).b)
    have ho : (h1.push { cls := .type "list", data := .seq (as.map Value.ref).toArray }).get? h1.objs.size = some (seqObj "list" (as.map Value.ref).toArray 0) := Heap.get?_push_size _ rfl
    refine wpAny_bind (wpAny_holding (wpAny_call_entry slot_list_sort ⟨_, ho, rfl⟩ entry_list_sort (SrtO.list_sort_ord (ltv := fun v u => SrtO.lexB (kk v) (kk u)) (SrtO.swo_lex kk) ho (by rw [List.length_map, hl]; omega) (fun h2 => ?_) fun out hso hbo => ⟨_, rfl, wpAny_pure ⟨_, rfl, ?_⟩⟩) (args_list_sort _)))
    · refine SrtO.pairs_sortableO (k := kk) (by omega) (fun v m => ?_) fun o e => ?_
      · obtain ⟨a, ma, rfl⟩ := List.mem_map.mp m
        obtain ⟨q, t, u, h1', h2'⟩ := zm a ma
        refine ⟨a, _, t, u, 0, rfl, Heap.get?_push_of_some _ h2', rfl, ?_⟩
        show _ = Data.seq #[.int ((pzAt zs a).getD ⟨0, 0⟩).a t, .int ((pzAt zs a).getD ⟨0, 0⟩).b u] 0
        rw [h1']
        rfl
      · rw [ho] at e
        cases e
        intro c
        exact absurd (Value.type.inj c) (by decide)
    · have outp : out.Perm (as.map Value.ref) := hbo.perm
      have oe : out = (out.map adOf).map Value.ref := by
        rw [List.map_map]
        refine (List.map_id out).symm.trans (List.map_congr_left fun v m => ?_)
        obtain ⟨a, _, rfl⟩ := List.mem_map.mp (outp.mem_iff.mp m)
        rfl
      have yp : (out.map adOf).Perm as := by
        have := outp.map adOf
        rw [List.map_map] at this
        have e : as.map (adOf ∘ Value.ref) = as := (List.map_congr_left fun a _ => rfl).trans (List.map_id as)
        rw [e] at this; exact this
      generalize out.map adOf = ys at oe yp
      have lo : out.length ≤ sizeLine := by rw [oe, List.length_map, yp.length_eq, hl]; omega
      obtain ⟨ep3, h3B⟩ := sortedHeap_at (vs := as.map Value.ref) (out := out.toArray) ho
      have h3o : ∀ b o, h1.get? b = some o → (sortedHeap (h1.push { cls := .type "list", data := .seq (as.map Value.ref).toArray }) h1.objs.size (as.map Value.ref) out.toArray).get? b = some o := fun b o e => by
        have bl := Heap.lt_size e
        rw [sortedHeap_old (Nat.ne_of_lt bl) (by rw [Heap.size_push]; exact Nat.lt_succ_of_lt bl)]
        exact Heap.get?_push_of_some _ e
      have tB : trk H1 h1.objs.size (.lst (ys.map V.ref)) zs h1.objs.size = some (.lst (ys.map V.ref)) := by unfold trk; rw [if_pos rfl]
      have tT : ∀ a ∈ as, ∀ q, pzAt zs a = some q → trk H1 h1.objs.size (.lst (ys.map V.ref)) zs a = some (.tup [.int q.a, .int q.b]) := fun a m q e => by
        unfold trk
        rw [if_neg (fun z => Bn (by rw [← z]; exact m)), e]
      have tO : ∀ b, b ≠ h1.objs.size → b ∉ as → trk H1 h1.objs.size (.lst (ys.map V.ref)) zs b = H1 b := fun b n m => by
        unfold trk
        rw [if_neg n, pzAt_no (by rw [lz]; exact m)]
      have big : ∀ a ∈ h1.objs.size :: as, (s1.heap.push { cls := .type "dict_items", data := .fields #[.ref d] }).objs.size ≤ a := fun a m => by
        rcases List.mem_cons.mp m with rfl | m
        · exact s12
        · exact Nat.le_of_lt (hG.above a m)
      have J := inv_many (tk := tk) (H' := trk H1 h1.objs.size (.lst (ys.map V.ref)) zs) (h' := sortedHeap (h1.push { cls := .type "list", data := .seq (as.map Value.ref).toArray }) h1.objs.size (as.map Value.ref) out.toArray) (as := h1.objs.size :: as) I2 (fun b o e => h3o b o (hk b o e)) big
          (fun b m => tO b (fun z => m (by rw [z]; exact List.mem_cons_self)) (fun z => m (List.mem_cons_of_mem _ z))) (fun b m o e => by
        by_cases hb : b = h1.objs.size
        · subst hb
          rw [tB] at e
          cases e
          refine ⟨by rw [List.length_map, yp.length_eq, hl]; omega, out, ep3, ?_, h3B⟩
          rw [oe]
          exact LiI.vals_refs ys
        · have m := (List.mem_cons.mp m).resolve_left hb
          obtain ⟨q, t, u, e1, e2⟩ := zm b m
          rw [tT b m q e1] at e
          cases e
          exact ⟨two_le, [.int q.a t, .int q.b u], .cons ⟨_, rfl⟩ (.cons ⟨_, rfl⟩ .nil), ⟨_, h3o b _ e2, rfl, _, rfl⟩⟩)
      have fr1 : ∀ a ∈ h1.objs.size :: as, H1 a = none := fun a m => I2.hok.fresh (big a m)
      have ym : ∀ a, a ∈ ys ↔ a ∈ as := fun a => yp.mem_iff
      refine ⟨.ref h1.objs.size, _, J, rfl, q _ _ ys (fun b o e => ?_) (fr1 _ List.mem_cons_self) (fun t m => fr1 t (List.mem_cons_of_mem _ ((ym t).mp m))) (fun z => Bn ((ym _).mp z)) (fun b n m => tO b n fun z => m ((ym b).mpr z)) tB ?_⟩
      · rw [tO b (fun z => by rw [z, fr1 _ List.mem_cons_self] at e; cases e) (fun z => by rw [fr1 b (List.mem_cons_of_mem _ z)] at e; cases e)]
        exact e
      · have es : ys.map (fun a => (pzAt zs a).getD ⟨0, 0⟩) = srt l := by
          refine srt_of ?_ (by rw [← lm]; exact yp.map _)
          rw [oe] at hso
          have hso := List.pairwise_map.mp hso
          refine List.pairwise_map.mpr (hso.imp fun {x y} h => ?_)
          have h := SrtO.lexB_no.mp h
          exact leP_iff.mpr (by simp only [kk, adOf] at h; omega)
        rw [← es]
        refine ⟨by rw [List.length_map], fun i x y h1 h2 => ?_⟩
        rw [List.getElem?_map, h1] at h2
        cases h2
        have m := (ym x).mp (List.mem_of_getElem? h1)
        obtain ⟨q, t, u, e1, e2⟩ := zm x m
        rw [tT x m q e1]
        show _ = some (HO.tup [V.int ((pzAt zs x).getD ⟨0, 0⟩).a, V.int ((pzAt zs x).getD ⟨0, 0⟩).b])
        rw [e1]
        rfl)
theorem sitems {F H : Hp} {d : Addr} {l : List PI} {Q : VK} (sF : Same F H) (hd : H d = some (.dK (dI l))) (q : ∀ (F' H' : Hp) (p : Addr) (xs : List V), Gr mu0 F H F' H' → Ow H F' H' p (.lst xs) → IsAll F' xs (srt l) → Q (.ref p) H') : rSortIt (.ref d) H Q := by
  unfold rSortIt
  refine ⟨d, l, rfl, hd, fun H' p ys s n nt pn off hp al => ?_⟩
  have fy : ∀ b ∈ ys, F b = none := fun b m => sF.free (nt b m)
  have s' : Same F (fun b => if b ∈ ys then H' b else F b) := fun b o e => by
    by_cases m : b ∈ ys
    · rw [fy b m] at e; cases e
    · simp only [m, if_false]; exact e
  have e2 : ∀ b, b ∈ ys → (if b ∈ ys then H' b else F b) = H' b := fun b m => if_pos m
  refine q (fun b => if b ∈ ys then H' b else F b) H' p (ys.map V.ref) ⟨s', fun b o e => ?_, fun b o e => ?_, fun b o e _ => s b o e, fun b e => s.free e⟩ ⟨n, ?_, hp⟩ ⟨by rw [List.length_map]; exact al.1, fun i x y h1 h2 => ?_⟩
  · by_cases m : b ∈ ys
    · simp only [m, if_true] at e; exact e
    · simp only [m, if_false] at e; exact s b o (sF b o e)
  · by_cases m : b ∈ ys
    · exact .inr (nt b m)
    · simp only [m, if_false] at e; exact .inl e
  · show (if p ∈ ys then H' p else F p) = none
    rw [if_neg pn]; exact sF.free n
  · rw [List.getElem?_map] at h1
    cases e : ys[i]? with
    | none => rw [e] at h1; cases h1
    | some t =>
      rw [e] at h1
      cases h1
      refine ⟨t, _, _, rfl, ?_, rfl, rfl⟩
      show (if t ∈ ys then H' t else F t) = _
      rw [if_pos (List.mem_of_getElem? e)]
      exact al.2 i t y e h2
end
/-! ### sum of a tuple; a tuple not at all or once -/
section
open PySem.Spec PyProof.Rows
variable {X : Cx}
def rSumT (K : PySem.W.Frag) : List V → Hp → VK → Prop := fun vs H Q => ∃ (a : Addr) (ns : List Int), vs = [V.ref a] ∧ SqT K H a (ns.map V.int) ∧ Q (.int ns.sum) H
theorem cr_sumT (hc : X.calm = true) : CallR X (.builtin "sum") (rSumT X.K) := by
  intro pins s σ H vs us Q I r h
  obtain ⟨a, ns, rfl, ht, q⟩ := h
  obtain ⟨its, rv, ⟨o, ho, hcl, n, hd⟩, _⟩ := I.tuple ht
  have hi := rv.ints
  obtain ⟨xs, e⟩ := hi.allInts.items
  have hn : numsOf (intItems xs).toList = ns := by rw [← e]; exact hi.numsOf
  rw [nums_intItems] at hn
  rw [e] at hd
  rw [Vals.ref1 r]
  refine PySem.W.ktm_sumG (I.ok.hd hc) ⟨o, ho, hcl, n, hd⟩ fun h' tk t' hk => ?_
  rw [preSum_eq, List.take_of_length_le (by simp), hn]
  exact ⟨.int _, H, I.kept hk, ⟨_, rfl⟩, q⟩
theorem tup_mul1 (l : Addr) (items : Array Value) (n : Nat) (dd : Option Addr) (sl : Array (Option Value)) (u : Tok) (hne : items.isEmpty = false) :
    Meets (Builtin.«tuple.__mul__» ⟨[.ref l, .int 1 u], []⟩) (fun _ R s => s.heap.get? l = some { cls := .type "tuple", dict := dd, data := .seq items n, slots := sl } ∧ R (.ok (.ret (Value.ref l))) s) :=
  .of_wp fun prog w A R s h => by
    obtain ⟨hp, g, d, tk, os⟩ := s
    obtain ⟨hl, h⟩ := h
    have f1 := AutoSeq1.idx_int
    wp_walk using wpAny_loadPart' hl
    exact ⟨_, rfl, h⟩
theorem tup_mul0 (l : Addr) (items : Array Value) (n : Nat) (dd : Option Addr) (sl : Array (Option Value)) (u : Tok) (hne : items.isEmpty = false) :
    Meets (Builtin.«tuple.__mul__» ⟨[.ref l, .int 0 u], []⟩) (fun _ R s => s.heap.get? l = some { cls := .type "tuple", dict := dd, data := .seq items n, slots := sl } ∧
      R (.ok (.ret (Value.ref s.heap.objs.size))) { s with heap := s.heap.push { cls := Value.type "tuple", data := Data.seq #[] }, toks := s.toks }) :=
  .of_wp fun prog w A R s h => by
    obtain ⟨hp, g, d, tk, os⟩ := s
    obtain ⟨hl, h⟩ := h
    have f1 := AutoSeq1.idx_int
    wp_walk using wpAny_loadPart' hl
    exact ⟨_, rfl, h⟩
def rRep01 (K : PySem.W.Frag) : R2 := fun x y H Q => ∃ l k xs, x = .ref l ∧ y = .int k ∧ SqT K H l xs ∧ xs ≠ [] ∧ ((k = 1 ∧ Q (.ref l) H) ∨ (k = 0 ∧ ∀ p, H p = none → Q (.ref p) (upd H p (.tup []))))
theorem op_rep01 : OpR X (binaryOp .Mult) (rRep01 X.K) := by
  intro pins s σ H x y v u Q I rx ry h
  obtain ⟨l, k, xs, rfl, rfl, hT, hne, h⟩ := h
  cases rx
  obtain ⟨tk, rfl⟩ := ry
  obtain ⟨its, r, ⟨⟨cls, dd, data, sl⟩, ho, hc, n, hd⟩, hs⟩ := I.tuple hT
  simp only at hc hd
  subst hc hd
  have hi : its.toArray.isEmpty = false := by
    cases its with
    | nil => have := r.length; exact absurd (List.eq_nil_of_length_eq_zero this) hne
    | cons a b => rfl
  rcases h with ⟨rfl, q⟩ | ⟨rfl, q⟩
  · refine wpAny_binaryOp_repeat_ref (T := "tuple") (U := "int") (by decide) ⟨_, ho, rfl⟩ (fun s' => typeIs_int s' 1 tk) noFill_tuple_mul F.fills_int_mul F.slot_int_rmul repeat_tuple F.slot_int_index.lookup
      (call_meets F.slot_int_rmul (typeIs_int s 1 tk) F.entry_int_rmul (F.args_int_rmul_2 _ _) (int_rmul_tuple 1 tk l its.toArray n dd sl)
        ⟨ho, rfl, ⟨_, ho, rfl⟩, call_meets F.slot_tuple_mul ⟨_, ho, rfl⟩ F.entry_tuple_mul (F.args_tuple_mul_2 _ _) (tup_mul1 l its.toArray n dd sl tk hi) ⟨ho, ?_⟩⟩)
    exact ⟨.ref l, H, I, rfl, q⟩
  · refine wpAny_binaryOp_repeat_ref (T := "tuple") (U := "int") (by decide) ⟨_, ho, rfl⟩ (fun s' => typeIs_int s' 0 tk) noFill_tuple_mul F.fills_int_mul F.slot_int_rmul repeat_tuple F.slot_int_index.lookup
      (call_meets F.slot_int_rmul (typeIs_int s 0 tk) F.entry_int_rmul (F.args_int_rmul_2 _ _) (int_rmul_tuple 0 tk l its.toArray n dd sl)
        ⟨ho, rfl, ⟨_, ho, rfl⟩, call_meets F.slot_tuple_mul ⟨_, ho, rfl⟩ F.entry_tuple_mul (F.args_tuple_mul_2 _ _) (tup_mul0 l its.toArray n dd sl tk hi) ⟨ho, ?_⟩⟩)
    refine ⟨.ref s.heap.objs.size, _, I.laid (t' := s.toks) (o := .tup []) (fun b ob q => Heap.get?_push_of_some _ q) (Nat.le_refl _) ?_, rfl, q _ (I.hok.fresh (Nat.le_refl _))⟩
    exact ⟨nil_le, _, .nil, IsTup.new _ _⟩
end
/-! slices of tuples, +: the ways -/
@[irreducible] def rSlQ (K : PySem.W.Frag) : V → Option Int → Option Int → Hp → VK → Prop := rSlA K
theorem sl_tupQ {X : Cx} : SlR X (rSlQ X.K) := by
  unfold rSlQ
  exact sl_tupA
@[irreducible] def rCatQ (K : PySem.W.Frag) : R2 := rCatA K
theorem op_catQ {X : Cx} : OpR X (binaryOp .Add) (rCatQ X.K) := by
  unfold rCatQ
  exact op_catA
theorem slA_all {K : PySem.W.Frag} {H : Hp} {a : Addr} {xs : List V} {lo hi : Option Int} {Q : VK} (h : SqT K H a xs) (w : HT.sIx xs.length 0 lo = 0 ∧ HT.sIx xs.length xs.length hi = xs.length) (q : Q (.ref a) H) : rSlQ K (.ref a) lo hi H Q := by
  unfold rSlQ
  exact ⟨a, xs, rfl, h, fun _ => q, fun n => absurd w n⟩
theorem slA_cut {K : PySem.W.Frag} {H : Hp} {a : Addr} {xs : List V} {lo hi : Option Int} {Q : VK} (h : SqT K H a xs) (w : ¬ (HT.sIx xs.length 0 lo = 0 ∧ HT.sIx xs.length xs.length hi = xs.length)) (q : ∀ p, H p = none → Q (.ref p) (upd H p (.tup (cutV xs lo hi)))) : rSlQ K (.ref a) lo hi H Q := by
  unfold rSlQ
  exact ⟨a, xs, rfl, h, fun n => absurd n w, fun _ => q⟩
theorem catA_nil {K : PySem.W.Frag} {H : Hp} {a b : Addr} {ys : List V} {Q : VK} (h : SqT K H a []) (h2 : SqT K H b ys) (l : ys.length ≤ sizeLine) (q : Q (.ref b) H) : rCatQ K (.ref a) (.ref b) H Q := by
  unfold rCatQ
  exact ⟨a, b, [], ys, rfl, rfl, h, h2, by simpa using l, fun _ => q, fun n => absurd rfl n, fun n => absurd rfl n⟩
theorem catA_new {K : PySem.W.Frag} {H : Hp} {a b : Addr} {xs ys : List V} {Q : VK} (h : SqT K H a xs) (h2 : SqT K H b ys) (l : xs.length + ys.length ≤ sizeLine) (n1 : xs ≠ []) (n2 : ys ≠ []) (q : ∀ p, H p = none → Q (.ref p) (upd H p (.tup (xs ++ ys)))) : rCatQ K (.ref a) (.ref b) H Q := by
  unfold rCatQ
  exact ⟨a, b, xs, ys, rfl, rfl, h, h2, l, fun e => absurd e n1, fun _ e => absurd e n2, fun _ _ => q⟩
def top (i : Nat) : Stmt := PySem.Challenge.pw_endnever_k73_whole_blocks_within_blocks.main.body.getD i (.Pass ⟨0, 0, 0, 0⟩)
abbrev s_L_at : Stmt := top 13
abbrev N_L_at : List Str := ["_law_script", "_law_k"]
theorem sc_L_at : FnScope ["_law_script", "_law_k"] ["_law_script", "_law_k"] (defScope s_L_at) := ⟨rfl, rfl, rfl, by decide +kernel, rfl, by decide +kernel, by decide +kernel⟩
abbrev s_L_purse : Stmt := top 15
abbrev N_L_purse : List Str := ["_law_script", "_law_at_here", "_law_cell"]
theorem sc_L_purse : FnScope ["_law_script", "_law_at_here", "_law_cell"] ["_law_script", "_law_at_here"] (defScope s_L_purse) := ⟨rfl, rfl, rfl, by decide +kernel, rfl, by decide +kernel, by decide +kernel⟩
abbrev s_L_mixed : Stmt := top 14
abbrev N_L_mixed : List Str := ["_law_cell", "_law_k", "_law_number"]
theorem sc_L_mixed : FnScope ["_law_cell", "_law_k", "_law_number"] ["_law_cell", "_law_k"] (defScope s_L_mixed) := ⟨rfl, rfl, rfl, by decide +kernel, rfl, by decide +kernel, by decide +kernel⟩
abbrev s_L_draw : Stmt := top 16
abbrev N_L_draw : List Str := ["_law_purse_here", "_law_out_of", "_law_drawn", "_law_number"]
theorem sc_L_draw : FnScope ["_law_purse_here", "_law_out_of", "_law_drawn", "_law_number"] ["_law_purse_here", "_law_out_of"] (defScope s_L_draw) := ⟨rfl, rfl, rfl, by decide +kernel, rfl, by decide +kernel, by decide +kernel⟩
abbrev s_L_entry : Stmt := top 17
abbrev N_L_entry : List Str := ["_law_purse_here", "_law_rows", "_law_signs", "_law_row", "_law_few", "_law_put", "_law_way", "_law_to"]
theorem sc_L_entry : FnScope ["_law_purse_here", "_law_rows", "_law_signs", "_law_row", "_law_few", "_law_put", "_law_way", "_law_to"] ["_law_purse_here", "_law_rows", "_law_signs", "_law_row", "_law_few"] (defScope s_L_entry) := ⟨rfl, rfl, rfl, by decide +kernel, rfl, by decide +kernel, by decide +kernel⟩
abbrev s_L_machine : Stmt := top 18
abbrev N_L_machine : List Str := ["_law_purse_here", "_law_rows", "_law_signs", "_law_few", "_law_sign", "_law_row"]
theorem sc_L_machine : FnScope ["_law_purse_here", "_law_rows", "_law_signs", "_law_few", "_law_sign", "_law_row"] ["_law_purse_here"] (defScope s_L_machine) := ⟨rfl, rfl, rfl, by decide +kernel, rfl, by decide +kernel, by decide +kernel⟩
abbrev s_L_turned : Stmt := top 20
abbrev N_L_turned : List Str := ["_law_entry_here"]
theorem sc_L_turned : FnScope ["_law_entry_here"] ["_law_entry_here"] (defScope s_L_turned) := ⟨rfl, rfl, rfl, by decide +kernel, rfl, by decide +kernel, by decide +kernel⟩
abbrev s_L_mirrored : Stmt := top 21
abbrev N_L_mirrored : List Str := ["_law_machine_here", "_law_entry_here", "_law_row"]
theorem sc_L_mirrored : FnScope ["_law_machine_here", "_law_entry_here", "_law_row"] ["_law_machine_here"] (defScope s_L_mirrored) := ⟨rfl, rfl, rfl, by decide +kernel, rfl, by decide +kernel, by decide +kernel⟩
abbrev s_is_entry : Stmt := top 6
abbrev N_is_entry : List Str := ["entry", "rows", "signs"]
theorem sc_is_entry : FnScope ["entry", "rows", "signs"] ["entry", "rows", "signs"] (defScope s_is_entry) := ⟨rfl, rfl, rfl, by decide +kernel, rfl, by decide +kernel, by decide +kernel⟩
abbrev s_is_machine : Stmt := top 7
abbrev N_is_machine : List Str := ["machine", "rows", "signs", "row", "entry"]
theorem sc_is_machine : FnScope ["machine", "rows", "signs", "row", "entry"] ["machine"] (defScope s_is_machine) := ⟨rfl, rfl, rfl, by decide +kernel, rfl, by decide +kernel, by decide +kernel⟩
abbrev s_must_machine : Stmt := top 8
abbrev N_must_machine : List Str := ["machine"]
theorem sc_must_machine : FnScope ["machine"] ["machine"] (defScope s_must_machine) := ⟨rfl, rfl, rfl, by decide +kernel, rfl, by decide +kernel, by decide +kernel⟩
abbrev s_most_setups : Stmt := top 10
abbrev N_most_setups : List Str := ["machine", "block", "found", "sign"]
theorem sc_most_setups : FnScope ["machine", "block", "found", "sign"] ["machine", "block"] (defScope s_most_setups) := ⟨rfl, rfl, rfl, by decide +kernel, rfl, by decide +kernel, by decide +kernel⟩
abbrev s_through : Stmt := top 11
abbrev N_through : List Str := ["machine", "block", "row", "side", "signs", "place", "steps", "entry"]
theorem sc_through : FnScope ["machine", "block", "row", "side", "signs", "place", "steps", "entry"] ["machine", "block", "row", "side"] (defScope s_through) := ⟨rfl, rfl, rfl, by decide +kernel, rfl, by decide +kernel, by decide +kernel⟩
abbrev s_L_halves : Stmt := top 22
abbrev N_L_halves : List Str := ["_law_machine_here", "_law_block", "_law_row", "_law_side", "_law_long", "_law_halves_here", "_law_at_here", "_law_steps", "_law_seen", "_law_found"]
theorem sc_L_halves : FnScope ["_law_machine_here", "_law_block", "_law_row", "_law_side", "_law_long", "_law_halves_here", "_law_at_here", "_law_steps", "_law_seen", "_law_found"] ["_law_machine_here", "_law_block", "_law_row", "_law_side"] (defScope s_L_halves) := ⟨rfl, rfl, rfl, by decide +kernel, rfl, by decide +kernel, by decide +kernel⟩
abbrev s_L_turned_about : Stmt := top 23
abbrev N_L_turned_about : List Str := ["_law_found", "_law_other"]
theorem sc_L_turned_about : FnScope ["_law_found", "_law_other"] ["_law_found"] (defScope s_L_turned_about) := ⟨rfl, rfl, rfl, by decide +kernel, rfl, by decide +kernel, by decide +kernel⟩
abbrev s_law : Stmt := top 24
abbrev N_law : List Str := ["_law_script", "_law_cell", "_law_purse_here", "_law_machine_here", "_law_back", "_law_turn", "_law_many", "_law_block", "_law_k", "_law_row", "_law_side", "_law_found"]
theorem sc_law : FnScope ["_law_script", "_law_cell", "_law_purse_here", "_law_machine_here", "_law_back", "_law_turn", "_law_many", "_law_block", "_law_k", "_law_row", "_law_side", "_law_found"] ["_law_script"] (defScope s_law) := ⟨rfl, rfl, rfl, by decide +kernel, rfl, by decide +kernel, by decide +kernel⟩
/-- what the top has written: where each def stands, what the names hold -/
structure Tx (K : PySem.W.Frag) (mg : Str → Option Value) where
  a_L_at : Addr
  fd_L_at : FuncData
  F_L_at : Fun K "_law_at" "_law_at" s_L_at a_L_at fd_L_at
  b_L_at : Binds K fd_L_at ["_law_script", "_law_k"] []
  m_L_at : mg "_law_at" = some (.ref a_L_at)
  a_L_purse : Addr
  fd_L_purse : FuncData
  F_L_purse : Fun K "_law_purse" "_law_purse" s_L_purse a_L_purse fd_L_purse
  b_L_purse : Binds K fd_L_purse ["_law_script", "_law_at_here"] []
  m_L_purse : mg "_law_purse" = some (.ref a_L_purse)
  a_L_mixed : Addr
  fd_L_mixed : FuncData
  F_L_mixed : Fun K "_law_mixed" "_law_mixed" s_L_mixed a_L_mixed fd_L_mixed
  b_L_mixed : Binds K fd_L_mixed ["_law_cell", "_law_k"] []
  m_L_mixed : mg "_law_mixed" = some (.ref a_L_mixed)
  a_L_draw : Addr
  fd_L_draw : FuncData
  F_L_draw : Fun K "_law_draw" "_law_draw" s_L_draw a_L_draw fd_L_draw
  b_L_draw : Binds K fd_L_draw ["_law_purse_here", "_law_out_of"] []
  m_L_draw : mg "_law_draw" = some (.ref a_L_draw)
  a_L_entry : Addr
  fd_L_entry : FuncData
  F_L_entry : Fun K "_law_entry" "_law_entry" s_L_entry a_L_entry fd_L_entry
  b_L_entry : Binds K fd_L_entry ["_law_purse_here", "_law_rows", "_law_signs", "_law_row", "_law_few"] []
  m_L_entry : mg "_law_entry" = some (.ref a_L_entry)
  a_L_machine : Addr
  fd_L_machine : FuncData
  F_L_machine : Fun K "_law_machine" "_law_machine" s_L_machine a_L_machine fd_L_machine
  b_L_machine : Binds K fd_L_machine ["_law_purse_here"] []
  m_L_machine : mg "_law_machine" = some (.ref a_L_machine)
  a_L_turned : Addr
  fd_L_turned : FuncData
  F_L_turned : Fun K "_law_turned" "_law_turned" s_L_turned a_L_turned fd_L_turned
  b_L_turned : Binds K fd_L_turned ["_law_entry_here"] []
  m_L_turned : mg "_law_turned" = some (.ref a_L_turned)
  a_L_mirrored : Addr
  fd_L_mirrored : FuncData
  F_L_mirrored : Fun K "_law_mirrored" "_law_mirrored" s_L_mirrored a_L_mirrored fd_L_mirrored
  b_L_mirrored : Binds K fd_L_mirrored ["_law_machine_here"] []
  m_L_mirrored : mg "_law_mirrored" = some (.ref a_L_mirrored)
  a_is_entry : Addr
  fd_is_entry : FuncData
  F_is_entry : Fun K "is_entry" "is_entry" s_is_entry a_is_entry fd_is_entry
  b_is_entry : Binds K fd_is_entry ["entry", "rows", "signs"] []
  m_is_entry : mg "is_entry" = some (.ref a_is_entry)
  a_is_machine : Addr
  fd_is_machine : FuncData
  F_is_machine : Fun K "is_machine" "is_machine" s_is_machine a_is_machine fd_is_machine
  b_is_machine : Binds K fd_is_machine ["machine"] []
  m_is_machine : mg "is_machine" = some (.ref a_is_machine)
  a_must_machine : Addr
  fd_must_machine : FuncData
  F_must_machine : Fun K "must_machine" "must_machine" s_must_machine a_must_machine fd_must_machine
  b_must_machine : Binds K fd_must_machine ["machine"] []
  m_must_machine : mg "must_machine" = some (.ref a_must_machine)
  a_most_setups : Addr
  fd_most_setups : FuncData
  F_most_setups : Fun K "most_setups" "most_setups" s_most_setups a_most_setups fd_most_setups
  b_most_setups : Binds K fd_most_setups ["machine", "block"] []
  m_most_setups : mg "most_setups" = some (.ref a_most_setups)
  a_through : Addr
  fd_through : FuncData
  F_through : Fun K "through" "through" s_through a_through fd_through
  b_through : Binds K fd_through ["machine", "block", "row", "side"] []
  m_through : mg "through" = some (.ref a_through)
  a_L_halves : Addr
  fd_L_halves : FuncData
  F_L_halves : Fun K "_law_halves" "_law_halves" s_L_halves a_L_halves fd_L_halves
  b_L_halves : Binds K fd_L_halves ["_law_machine_here", "_law_block", "_law_row", "_law_side"] []
  m_L_halves : mg "_law_halves" = some (.ref a_L_halves)
  a_L_turned_about : Addr
  fd_L_turned_about : FuncData
  F_L_turned_about : Fun K "_law_turned_about" "_law_turned_about" s_L_turned_about a_L_turned_about fd_L_turned_about
  b_L_turned_about : Binds K fd_L_turned_about ["_law_found"] []
  m_L_turned_about : mg "_law_turned_about" = some (.ref a_L_turned_about)
  a_law : Addr
  fd_law : FuncData
  F_law : Fun K "law" "law" s_law a_law fd_law
  b_law : Binds K fd_law ["_law_script"] []
  m_law : mg "law" = some (.ref a_law)
  C_NoMachine : Addr
  m_NoMachine : mg "NoMachine" = some (.ref C_NoMachine)
  tk_MOST_ROWS : Tok
  m_MOST_ROWS : mg "MOST_ROWS" = some (.int 4 tk_MOST_ROWS)
  tk_MOST_SIGNS : Tok
  m_MOST_SIGNS : mg "MOST_SIGNS" = some (.int 4 tk_MOST_SIGNS)
  n_len : mg "len" = none
  n_max : mg "max" = none
  n_int : mg "int" = none
  n_range : mg "range" = none
  n_all : mg "all" = none
  n_list : mg "list" = none
  n_tuple : mg "tuple" = none
section
variable {P : Program} {w : World} {K : PySem.W.Frag} {mg : Str → Option Value} {base : Heap}
/-! ### small things -/
theorem ln {H : Hp} {p q : Addr} {o u : HO} (n : H q = none) (h : H p = some o) : upd H q u p = some o := (upd_ne (ne_of_none h n)).trans h
theorem kt_int_int {K : PySem.W.Frag} : PySem.W.kitOne K (.type "int") (.type "int") = some true := kit_ty (by decide +kernel)
theorem kt_int_bool {K : PySem.W.Frag} : PySem.W.kitOne K (.type "int") (.type "bool") = some false := kit_ty (by decide +kernel)
theorem kt_tup {K : PySem.W.Frag} : PySem.W.kitOne K (.type "tuple") (.type "tuple") = some true := kit_ty (by decide +kernel)
theorem kt_list {K : PySem.W.Frag} : PySem.W.kitOne K (.type "list") (.type "list") = some true := kit_ty (by decide +kernel)
theorem gr_purse {H H1 : Hp} (s : Same H H1) : Gr mu0 H H H H1 := ⟨fun _ _ h => h, s, fun _ _ h => .inl h, fun c o h _ => s c o h, fun c h => s.free h⟩
theorem at_end {xs : List V} {k : Nat} {v : V} (l : xs.length = k + 1) (h : xs[k]? = some v) : atI xs (-1) = some v := by
  have e : ixN xs.length (-1) = some k := by
    unfold ixN
    rw [if_neg (by decide), if_pos (by omega)]
    congr 1
    omega
  unfold atI
  rw [e]
  exact h
theorem cut_all {xs : List V} {j : Nat} (h : xs.length ≤ j) : cutV xs none (some (j : Int)) = xs := by
  unfold cutV
  have e1 : HT.sIx xs.length 0 none = 0 := rfl
  have e2 : HT.sIx xs.length xs.length (some (j : Int)) = xs.length := by
    simp only [HT.sIx]
    rw [if_neg (by omega), Int.toNat_natCast]
    omega
  rw [e1, e2, List.drop_zero, Nat.sub_zero, List.take_length]
theorem map_take_succ {α β : Type} {f : α → β} {xs : List α} {i : Nat} {x : α} (h : xs[i]? = some x) : (xs.take (i + 1)).map f = (xs.take i).map f ++ [f x] := by
  rw [List.take_add_one, h, List.map_append]; rfl
theorem cut_1 {xs : List V} : cutV xs (some 1) none = xs.drop 1 := by
  unfold cutV
  have e2 : HT.sIx xs.length xs.length none = xs.length := rfl
  rw [e2]
  cases xs with
  | nil => simp
  | cons x xs =>
    have e1 : HT.sIx (x :: xs).length 0 (some 1) = 1 := by
      simp only [HT.sIx, List.length_cons]
      rw [if_neg (by decide), show (1 : Int).toNat = 1 from rfl]
      omega
    rw [e1]
    show (xs.take (xs.length + 1 - 1)) = xs
    rw [Nat.add_sub_cancel, List.take_length]
theorem cut32 : ¬ (HT.sIx 3 0 none = 0 ∧ HT.sIx 3 3 (some 2) = 3) := by decide
theorem Gr.frzS {mu : Addr → Prop} {F H F1 H1 : Hp} (g : Gr mu F H F1 H1) (P : Addr → Prop) [DecidablePred P] (h : ∀ c, P c → H c = none ∧ F1 c = none) : Gr mu F H (fun c => if P c then H1 c else F1 c) H1 ∧ Same F1 (fun c => if P c then H1 c else F1 c) := by
  have s : Same F1 (fun c => if P c then H1 c else F1 c) := fun c o e => by
    by_cases p : P c
    · rw [(h c p).2] at e; cases e
    · simp only [p, if_false]; exact e
  refine ⟨⟨fun c o e => s c o (g.ff c o e), fun c o e => ?_, fun c o e => ?_, g.fr, g.th⟩, s⟩
  · by_cases p : P c
    · simp only [p, if_true] at e; exact e
    · simp only [p, if_false] at e; exact g.fh c o e
  · by_cases p : P c
    · exact .inr (h c p).1
    · simp only [p, if_false] at e; exact g.nw c o e
/-! ### purses of three numbers -/
def PurseC (a c k : Int) : HO := .lst [.int a, .int c, .int k]
def PuAt (H : Hp) (p : Addr) (b : Int) : Prop := ∃ a c k : Int, H p = some (PurseC a c k) ∧ 0 ≤ k ∧ k ≤ b
theorem PuAt.le {H : Hp} {p : Addr} {b b' : Int} (h : PuAt H p b) (l : b ≤ b') : PuAt H p b' := by
  obtain ⟨a, c, k, e, h0, h1⟩ := h
  exact ⟨a, c, k, e, h0, by omega⟩
theorem PuAt.gr {mu : Addr → Prop} {F H F' H' : Hp} {p : Addr} {b : Int} (h : PuAt H p b) (g : Gr mu F H F' H') (m : ¬ mu p) : PuAt H' p b := by
  obtain ⟨a, c, k, e, h0, h1⟩ := h
  exact ⟨a, c, k, g.fr _ _ e m, h0, h1⟩
theorem PuAt.ln {H : Hp} {p q : Addr} {o : HO} {b : Int} (h : PuAt H p b) (n : H q = none) : PuAt (upd H q o) p b := by
  obtain ⟨a, c, k, e, h0, h1⟩ := h
  exact ⟨a, c, k, by rw [upd_ne (ne_of_none e n)]; exact e, h0, h1⟩
theorem PuAt.off {H : Hp} {p q : Addr} {o : HO} {b : Int} (h : PuAt H p b) (n : p ≠ q) : PuAt (upd H q o) p b := by
  obtain ⟨a, c, k, e, h0, h1⟩ := h
  exact ⟨a, c, k, by rw [upd_ne n]; exact e, h0, h1⟩
theorem PuAt.ex {H : Hp} {p : Addr} {b : Int} (h : PuAt H p b) : ∃ o, H p = some o := by
  obtain ⟨a, c, k, e, _⟩ := h
  exact ⟨_, e⟩
theorem Gr.pf0 {mu : Addr → Prop} {F H F1 H1 : Hp} {p : Addr} {o : HO} (g : Gr mu F H F1 H1) (f : F p = none) (h : H p = some o) : F1 p = none := by
  cases e : F1 p with
  | none => rfl
  | some z =>
    rcases g.nw p z e with k | k
    · rw [f] at k; cases k
    · rw [h] at k; cases k
theorem PuAt.f {mu : Addr → Prop} {F H F1 H1 : Hp} {p : Addr} {b : Int} (h : PuAt H p b) (f : F p = none) (g : Gr mu F H F1 H1) : F1 p = none := by
  obtain ⟨o, e⟩ := h.ex
  exact g.pf0 f e
theorem PuAt.ne {H : Hp} {p q : Addr} {b : Int} (h : PuAt H p b) (n : H q = none) : p ≠ q := by
  obtain ⟨o, e⟩ := h.ex
  exact ne_of_none e n
def sp_L_at (K : PySem.W.Frag) : Sp := fun vs H Q _ => ∃ (l : Addr) (ns : List Int) (k : Nat), vs = [.ref l, .int k] ∧ SqL K H l (ns.map V.int) ∧ ∀ z : Int, Q (.int z) H
theorem ok_L_at (t : Tx K mg) : FnOk P w K mg base CX0 1 t.a_L_at t.fd_L_at ["_law_script", "_law_k"] (sp_L_at K) := by
  refine t.F_L_at.ok sc_L_at (fun vs H Q E h => ?_) (fun cdv A outer s H vs Q E hr h => ?_)
  · obtain ⟨l, ns, k, rfl, _⟩ := h
    rfl
  · obtain ⟨l, ns, k, rfl, hl, q⟩ := h
    refine ⟨_, (pss_cons (ps_if (pt_cmpR op_lt (pv 1) (pe_callB (id := "len") call_lenQ (by rfl) t.n_len (by decide +kernel) (pa_cons (pv 0) pa_nil)) (nomark _)) (pss_one (ps_ret (pe_ix ix_list (pv 0) (pv 1) (fun _ _ => rfl)))) pss_nil)
      (pss_one (ps_ret pe_int))), ?_⟩
    refine ⟨_, rfl, _, rfl, l, _, rfl, .inl hl, _, _, rfl, rfl, _, rfl, ?_⟩
    refine ite2 (fun c => ?_) (fun c => ?_)
    · have c := of_decide_eq_true c
      have c : k < ns.length := by
        rw [List.length_map] at c
        omega
      refine ⟨_, rfl, _, rfl, l, _, _, _, rfl, rfl, hl, atI_nat (j := k) (by rw [List.getElem?_map, List.getElem?_eq_getElem c]; rfl), ?_⟩
      exact q _
    · exact q 0
def sp_L_mixed : Sp := fun vs H Q _ => ∃ c k : Int, vs = [.int c, .int k] ∧ 0 ≤ k ∧ k < 1000000 ∧ ∀ n : Int, Q (.int n) H
theorem ok_L_mixed (t : Tx K mg) : FnOk P w K mg base CX0 1 t.a_L_mixed t.fd_L_mixed ["_law_cell", "_law_k"] sp_L_mixed := by
  refine t.F_L_mixed.ok sc_L_mixed (fun vs H Q E h => ?_) (fun cdv A outer s H vs Q E hr h => ?_)
  · obtain ⟨c, k, rfl, _⟩ := h
    rfl
  · obtain ⟨c, k, rfl, k0, k1, q⟩ := h
    refine ⟨_, (pss_cons (ps_set (i := 0) sc_L_mixed.nd rfl (by first | exact Or.inl rfl | exact Or.inr rfl) (pe_op op_mod (pv 0) pe_int))
      (pss_cons (ps_set (i := 2) sc_L_mixed.nd rfl (by first | exact Or.inl rfl | exact Or.inr rfl) (pe_op op_mod (pe_op op_add (pe_op op_add (pe_op op_mul (pv 0) pe_int) (pe_op op_mul (pe_op op_mul pe_int (pv 1)) (pv 1))) (pv 1)) pe_int))
      (pss_cons (ps_set (i := 2) sc_L_mixed.nd rfl (by first | exact Or.inl rfl | exact Or.inr rfl) (pe_op op_mod (pe_op op_mul (pv 2) (pv 2)) pe_int))
      (pss_one (ps_ret (pe_op op_mod (pe_op op_mul (pv 2) pe_int) pe_int)))))), ?_⟩
    refine ⟨_, rfl, _, _, rfl, rfl, (by show (0 : Int) < 4611685803679178881; decide), ?_⟩
    generalize c % 4611685803679178881 = r
    refine ⟨_, rfl, _, _, rfl, rfl, .inr ⟨by decide, by decide⟩, _, rfl, _, _, rfl, rfl, .inl ⟨by decide, by decide⟩, _, rfl, _, _, rfl, rfl, .inr ⟨by omega, by omega⟩, _, _, rfl, rfl, _, rfl, _, _, rfl, rfl, _, _, rfl, rfl, (by show (0 : Int) < 2147483647; decide), ?_⟩
    have g0 := Int.emod_nonneg (r * 1103515245 + 7919 * k * k + k) (show (2147483647 : Int) ≠ 0 by decide)
    have g1 := Int.emod_lt_of_pos (r * 1103515245 + 7919 * k * k + k) (show (0 : Int) < 2147483647 by decide)
    generalize (r * 1103515245 + 7919 * k * k + k) % 2147483647 = n at g0 g1
    refine ⟨_, rfl, _, rfl, _, _, rfl, rfl, .inl ⟨by omega, by omega⟩, _, _, rfl, rfl, (by show (0 : Int) < 2147483629; decide), ?_⟩
    refine ⟨_, rfl, _, _, rfl, rfl, .inr ⟨by decide, by decide⟩, _, _, rfl, rfl, (by show (0 : Int) < 2147483587; decide), ?_⟩
    exact q _
def sp_L_purse (K : PySem.W.Frag) : Sp := fun vs H Q _ => ∃ (l : Addr) (ns : List Int) (k : Nat), vs = [.ref l, .int k] ∧ SqL K H l (ns.map V.int) ∧ k ≤ 10 ∧
  ∀ (p : Addr) (H' : Hp), Same H H' → H p = none → PuAt H' p 10000 → Q (.ref p) H'
theorem ok_L_purse (t : Tx K mg) : FnOk P w K mg base CX0 2 t.a_L_purse t.fd_L_purse ["_law_script", "_law_at_here"] (sp_L_purse K) := by
  refine t.F_L_purse.ok sc_L_purse (fun vs H Q E h => ?_) (fun cdv A outer s H vs Q E hr h => ?_)
  · obtain ⟨l, ns, k, rfl, _⟩ := h
    rfl
  · obtain ⟨l, ns, k, rfl, hl, k1, q⟩ := h
    refine ⟨_, (pss_cons (ps_set (i := 2) sc_L_purse.nd rfl (by first | exact Or.inl rfl | exact Or.inr rfl) (pe_call (ok_L_at t) (hr.mono (by decide)) (by rfl) t.m_L_at t.F_L_at.kp t.b_L_at .nil pass0 (pa_cons (pv 0) (pa_cons (pv 1) pa_nil))))
      (pss_one (ps_ret (pe_lst (pa_cons (pe_callB (id := "max") (call_max2 rfl) (by rfl) t.n_max (by decide +kernel) (pa_cons (pe_op op_sub (pv 2) (pe_op op_pow pe_int pe_int)) (pa_cons pe_int pa_nil))) (pa_cons (pv 2) (pa_cons (pe_op op_mul pe_int (pv 1)) pa_nil))))))), ?_⟩
    refine ⟨_, rfl, _, rfl, l, ns, k, rfl, hl, fun z => ?_⟩
    refine ⟨_, rfl, _, _, rfl, rfl, ⟨by decide, by decide, by decide⟩, _, _, rfl, rfl, _, _, rfl, ?_⟩
    refine ⟨_, rfl, _, rfl, _, _, rfl, rfl, .inl ⟨by decide, by decide⟩, three_le, fun p np => ?_⟩
    exact q p _ (sm_up np) np ⟨_, _, _, upd_same, by omega, by omega⟩
def sp_L_draw : Sp := fun vs H Q _ => ∃ (F : Hp) (p : Addr) (n b : Int), vs = [.ref p, .int n] ∧ Same F H ∧ F p = none ∧ PuAt H p b ∧ b ≤ 900000 ∧ 0 < n ∧ n < 1267650600228229401496703205376 ∧
  ∀ (d : Int) (H' : Hp), 0 ≤ d → d < n → Gr (muP p) F H F H' → PuAt H' p (b + 2) → Q (.int d) H'
theorem ok_L_draw (t : Tx K mg) : FnOk P w K mg base CX0 2 t.a_L_draw t.fd_L_draw ["_law_purse_here", "_law_out_of"] sp_L_draw := by
  refine t.F_L_draw.ok sc_L_draw (fun vs H Q E h => ?_) (fun cdv A outer s H vs Q E hr h => ?_)
  · obtain ⟨F, p, n, b, rfl, _⟩ := h
    rfl
  · obtain ⟨F, p, n, b, rfl, sF, fp, ⟨a, cc, k, hp, k0, kb⟩, hb, n0, n1, q⟩ := h
    refine ⟨_, (pss_cons (ps_if (pt_cmpR op_gt (pe_ix ix_list (pv 0) pe_int (fun _ _ => rfl)) pe_int (nomark _)) (pss_cons (ps_set (i := 2) sc_L_draw.nd rfl (by first | exact Or.inl rfl | exact Or.inr rfl) (pe_op op_mod (pe_ix ix_list (pv 0) pe_int (fun _ _ => rfl)) (pv 1)))
      (pss_cons (ps_asg (pe_op op_fdivW (pe_ix ix_list (pv 0) pe_int (fun _ _ => rfl)) (pv 1)) (pg_sub (pv 0) pe_int set_list))
      (pss_one (ps_ret (pv 2))))) pss_nil)
      (pss_cons (ps_asg (pe_op op_add (pe_ix ix_list (pv 0) pe_int (fun _ _ => rfl)) pe_int) (pg_sub (pv 0) pe_int set_list))
      (pss_cons (ps_set (i := 3) sc_L_draw.nd rfl (by first | exact Or.inl rfl | exact Or.inr rfl) (pe_call (ok_L_mixed t) (hr.mono (by decide)) (by rfl) t.m_L_mixed t.F_L_mixed.kp t.b_L_mixed .nil pass0 (pa_cons (pe_ix ix_list (pv 0) pe_int (fun _ _ => rfl)) (pa_cons (pe_ix ix_list (pv 0) pe_int (fun _ _ => rfl)) pa_nil))))
      (pss_one (ps_ret (pe_op op_mod (pe_op op_fdiv (pe_op op_add (pe_op op_mul (pv 3) pe_int) (pe_call (ok_L_mixed t) (hr.mono (by decide)) (by rfl) t.m_L_mixed t.F_L_mixed.kp t.b_L_mixed .nil pass0 (pa_cons (pe_op op_add (pe_ix ix_list (pv 0) pe_int (fun _ _ => rfl)) (pv 3)) (pa_cons (pe_op op_add (pe_ix ix_list (pv 0) pe_int (fun _ _ => rfl)) pe_int) pa_nil)))) pe_int) (pv 1))))))), ?_⟩
    have gr : ∀ a c k : Int, Gr (muP p) F H F (upd H p (PurseC a c k)) := fun a c k => (Gr.refl sF).set fp (.inr rfl)
    refine ⟨_, rfl, p, _, _, _, rfl, rfl, SqL.of hp, atI_nat (j := 0) rfl, _, _, rfl, rfl, _, rfl, ?_⟩
    refine ite2 (fun c => ?_) (fun c => ?_)
    · refine ⟨_, rfl, p, _, _, _, rfl, rfl, SqL.of hp, atI_nat (j := 0) rfl, _, rfl, _, _, rfl, rfl, n0, ?_⟩
      refine ⟨_, rfl, p, _, _, _, rfl, rfl, SqL.of hp, atI_nat (j := 0) rfl, _, rfl, _, _, rfl, rfl, wide_div n0 (b := 100) (by have e : (2 : Nat) ^ 100 = 1267650600228229401496703205376 := rfl; rw [e]; omega) (by decide) (by decide), _, rfl, p, _, _, 0, rfl, rfl, hp, rfl, _, rfl, ?_⟩
      exact q _ _ (Int.emod_nonneg _ (by omega)) (Int.emod_lt_of_pos _ n0) (gr _ _ _) ⟨_, _, _, upd_same, k0, by omega⟩
    · refine ⟨_, rfl, p, _, _, _, rfl, rfl, SqL.of hp, atI_nat (j := 2) rfl, _, _, rfl, rfl, _, rfl, p, _, _, 2, rfl, rfl, hp, rfl, ?_⟩
      have h2 : (upd H p (.lst ([.int a, .int cc, .int k].set 2 (.int (k + 2))))) p = some (PurseC a cc (k + 2)) := upd_same
      refine ⟨_, rfl, p, _, _, _, rfl, rfl, SqL.of h2, atI_nat (j := 1) rfl, _, rfl, p, _, _, _, rfl, rfl, SqL.of h2, atI_nat (j := 2) rfl, _, _, rfl, by omega, by omega, fun m => ?_⟩
      refine ⟨_, rfl, _, _, rfl, rfl, .inr ⟨by decide, by decide⟩, ?_⟩
      refine ⟨_, rfl, p, _, _, _, rfl, rfl, SqL.of h2, atI_nat (j := 1) rfl, _, rfl, _, _, rfl, rfl, _, rfl, p, _, _, _, rfl, rfl, SqL.of h2, atI_nat (j := 2) rfl, _, _, rfl, rfl, _, _, rfl, by omega, by omega, fun m2 => ?_⟩
      refine ⟨_, _, rfl, rfl, _, _, rfl, rfl, ⟨by decide, by decide⟩, _, rfl, _, _, rfl, rfl, n0, ?_⟩
      exact q _ _ (Int.emod_nonneg _ (by omega)) (Int.emod_lt_of_pos _ n0) (gr _ _ _) ⟨_, _, _, upd_same, by omega, by omega⟩
/-! ### machines that are machines -/
structure EOk (R S : Nat) (e : Ent) : Prop where
  ok : ∀ p w r, e = .go p w r → (0 ≤ p ∧ p < S) ∧ (w = -1 ∨ w = 1) ∧ 0 ≤ r ∧ r < R
structure MOk (M : Mach) (R S : Nat) : Prop where
  r1 : 1 ≤ R
  r4 : R ≤ 4
  s2 : 2 ≤ S
  s4 : S ≤ 4
  len : M.length = R
  row : ∀ r ∈ M, r.length = S
  ent : ∀ r ∈ M, ∀ e ∈ r, EOk R S e
def sp_is_entry : Sp := fun vs H Q _ => ∃ (F : Hp) (v : V) (e : Ent) (R S : Nat), vs = [v, .int R, .int S] ∧ Same F H ∧ Is F v e ∧ EOk R S e ∧ ∀ H', Gr mu0 F H F H' → Q (.bl true) H'
theorem ok_is_entry (t : Tx K mg) : FnOk P w K mg base CX0 1 t.a_is_entry t.fd_is_entry ["entry", "rows", "signs"] sp_is_entry := by
  refine t.F_is_entry.ok sc_is_entry (fun vs H Q E h => ?_) (fun cdv A outer s H vs Q E hr h => ?_)
  · obtain ⟨F, v, e, R, S, rfl, _⟩ := h
    rfl
  · obtain ⟨F, v, e, R, S, rfl, sF, hv, he, q⟩ := h
    refine ⟨_, (pss_cons (ps_if (pt_cmpR (op_eqD hr.units) (pv 0) (pe_tup pa_nil) (nomark _)) (pss_one (ps_ret pe_bl)) pss_nil)
      (pss_one (ps_ret (pe_and (pe_cmpR op_eq (pe_callB (id := "len") call_lenQ (by rfl) t.n_len (by decide +kernel) (pa_cons (pv 0) pa_nil)) pe_int (nomark _)) (pe_and (pe_chain op_le op_lt pe_int (pe_ix ix_tup (pv 0) pe_int (fun _ _ => rfl)) (pv 2)) (pe_and (pe_cmpR op_in_seq (pe_ix ix_tup (pv 0) pe_int (fun _ _ => rfl)) (pe_lst (pa_cons (pe_un un_neg pe_int) (pa_cons pe_int pa_nil))) (by rfl)) (pe_one (pe_chain op_le op_lt pe_int (pe_ix ix_tup (pv 0) pe_int (fun _ _ => rfl)) (pv 1))))))))), ?_⟩
    have g0 : Gr mu0 F H F H := Gr.refl sF
    refine ⟨_, rfl, by show 0 ≤ sizeLine; decide, fun p np => ?_⟩
    have g1 : Gr mu0 F H F (upd H p (.tup [])) := g0.own np
    refine eq_dat (a := e) (b := Ent.emp) (hv.up g1.fh) ⟨p, rfl, upd_same⟩ ?_
    refine ⟨_, rfl, ?_⟩
    refine ite2 (fun c => ?_) (fun c => ?_)
    · exact q _ g1
    · cases e with
      | emp => exact absurd (decide_eq_true rfl) c
      | go pu wa ro =>
        obtain ⟨a, rfl, ha⟩ := hv
        obtain ⟨⟨o1, o2⟩, o3, o4, o5⟩ := he.ok _ _ _ rfl
        have h1 := g1.fh _ _ ha
        refine ⟨_, rfl, a, _, rfl, .inr (SqT.of h1), rfl, _, rfl, ifT rfl ?_⟩
        refine ⟨_, rfl, a, _, _, _, rfl, rfl, SqT.of h1, atI_nat (j := 0) rfl, _, _, rfl, rfl, _, rfl, ifT (decide_eq_true o1) ⟨_, rfl, _, _, rfl, rfl, _, rfl, ifT (decide_eq_true o2) ?_⟩⟩
        refine ⟨_, rfl, a, _, _, _, rfl, rfl, SqT.of h1, atI_nat (j := 1) rfl, _, rfl, two_le, fun l nl => ?_⟩
        have g2 := g1.own (o := .lst [.int (-1), .int 1]) nl
        have h2 := g2.fh _ _ ha
        refine ⟨l, _, rfl, .inl (SqL.of upd_same), rfl, rfl, _, rfl, ifT ?_ ?_⟩
        · rcases o3 with rfl | rfl <;> rfl
        · refine ⟨_, rfl, a, _, _, _, rfl, rfl, SqT.of h2, atI_nat (j := 2) rfl, _, _, rfl, rfl, _, rfl, ifT (decide_eq_true o4) ⟨_, rfl, _, _, rfl, rfl, ?_⟩⟩
          show Q (.bl (decide (ro < (R : Int)))) _
          rw [decide_eq_true o5]
          exact q _ g2
/-- all bools of a list of trues -/
theorem all_rep (n : Nat) : (List.replicate n true).all id = true := by simp
theorem map_rep (n : Nat) : (List.replicate n true).map V.bl = List.replicate n (V.bl true) := by simp
theorem rep_snoc (n : Nat) : List.replicate n (V.bl true) ++ [V.bl true] = List.replicate (n + 1) (V.bl true) := by
  rw [← List.replicate_succ']
def sp_is_machine : Sp := fun vs H Q _ => ∃ (F : Hp) (v : V) (M : Mach) (R S : Nat), vs = [v] ∧ Same F H ∧ Is F v M ∧ MOk M R S ∧ ∀ H', Gr mu0 F H F H' → Q (.bl true) H'
theorem ok_is_machine (t : Tx K mg) : FnOk P w K mg base CX0 2 t.a_is_machine t.fd_is_machine ["machine"] sp_is_machine := by
  refine t.F_is_machine.ok sc_is_machine (fun vs H Q E h => ?_) (fun cdv A outer s H vs Q E hr h => ?_)
  · obtain ⟨F, v, M, R, S, rfl, _⟩ := h
    rfl
  · obtain ⟨F, v, M, R, S, rfl, sF, hv, hM, q⟩ := h
    refine ⟨_, (pss_cons (ps_set (i := 1) sc_is_machine.nd rfl (by first | exact Or.inl rfl | exact Or.inr rfl) (pe_callB (id := "len") call_lenQ (by rfl) t.n_len (by decide +kernel) (pa_cons (pv 0) pa_nil)))
      (pss_cons (ps_if (pt_not (pt_chain op_le op_le pe_int (pv 1) (pe_glob (v := .int 4) (by rfl) t.m_MOST_ROWS ⟨_, rfl⟩))) (pss_one (ps_ret pe_bl)) pss_nil)
      (pss_cons (ps_set (i := 2) sc_is_machine.nd rfl (by first | exact Or.inl rfl | exact Or.inr rfl) (pe_callB (id := "len") call_lenQ (by rfl) t.n_len (by decide +kernel) (pa_cons (pe_ix ix_list (pv 0) pe_int (fun _ _ => rfl)) pa_nil)))
      (pss_cons (ps_if (PW.pt (pw_or (pt_not (pt_chain op_le op_le pe_int (pv 2) (pe_glob (v := .int 4) (by rfl) t.m_MOST_SIGNS ⟨_, rfl⟩))) (pw_or1 (pt_not (pt_val (pe_callB (id := "all") (cr_all rfl) (by rfl) t.n_all (by decide +kernel) (pa_cons (pe_lc (own := [("row", 3)]) (g := gName 3) (tt := tYes) rfl sc_is_machine.nd (pi_list (pv 0)) (blkOk_by (N := N_is_machine) (sc := defScope s_is_machine) (by decide +kernel)) (fun _ _ _ _ _ => (pg_name (i := 3) sc_is_machine.nd rfl (by first | exact Or.inl rfl | exact Or.inr rfl))) (fun _ _ _ _ _ => pts_nil) (fun _ _ _ _ _ => (pe_cmpR op_eq (pe_callB (id := "len") (crK (K := K) (r := rLenQ) rfl call_lenQ) (by rfl) t.n_len (by decide +kernel) (pa_cons (pv 3) pa_nil)) (pv 2) (nomark _)))) pa_nil))))))) (pss_one (ps_ret pe_bl)) pss_nil)
      (pss_one (ps_ret (pe_callB (id := "all") (cr_all rfl) (by rfl) t.n_all (by decide +kernel) (pa_cons (pe_lc (own := [("row", 3)]) (g := gName 3) (tt := tYes) rfl sc_is_machine.nd (pi_list (pv 0)) (blkOk_by (N := N_is_machine) (sc := defScope s_is_machine) (by decide +kernel)) (fun _ _ _ _ _ => (pg_name (i := 3) sc_is_machine.nd rfl (by first | exact Or.inl rfl | exact Or.inr rfl))) (fun _ _ _ _ _ => pts_nil) (fun _ _ _ _ _ => (pe_callB (id := "all") (crK (K := K) (r := rAll) rfl (cr_all rfl)) (by rfl) t.n_all (by decide +kernel) (pa_cons (pe_lc (own := [("entry", 4)]) (g := gName 4) (tt := tYes) rfl sc_is_machine.nd (pi_listK (K := K) rfl (pv 3)) (blkOk_by (N := N_is_machine) (sc := { kind := PySem.ScopeKind.function, names := [(PySem.Str.ofString ".0", PySem.NameKind.local), (PySem.Str.ofString "row", PySem.NameKind.local), (PySem.Str.ofString "all", PySem.NameKind.globalImplicit), (PySem.Str.ofString "rows", PySem.NameKind.cell), (PySem.Str.ofString "signs", PySem.NameKind.cell)], isGenerator := false, isCoroutine := false }) (by decide +kernel)) (fun _ _ _ _ _ => (pg_name (i := 4) sc_is_machine.nd rfl (by first | exact Or.inl rfl | exact Or.inr rfl))) (fun _ _ _ _ _ => pts_nil) (fun _ _ _ _ _ => (pe_call (ok_is_entry t) (hr.mono (by decide)) (by rfl) t.m_is_entry t.F_is_entry.kp t.b_is_entry .nil pass0 (pa_cons (pv 4) (pa_cons (pv 1) (pa_cons (pv 2) pa_nil)))))) pa_nil)))) pa_nil)))))))), ?_⟩
    have g0 : Gr mu0 F H F H := Gr.refl sF
    have r1 := hM.r1
    have r4 := hM.r4
    have s2 := hM.s2
    have s4 := hM.s4
    obtain ⟨a, rs, rfl, ha, hrs⟩ := hv
    have lrs : rs.length = R := hrs.1.trans hM.len
    have h0 := sF _ _ ha
    have l0 : 0 < rs.length := by omega
    have hx0 : rs[0]? = some rs[0] := List.getElem?_eq_getElem l0
    obtain ⟨row0, hM0, hr0⟩ := hrs.get' hx0
    obtain ⟨a0, es0, e0, ha0, hes0⟩ := hr0
    have ls0 : es0.length = S := hes0.1.trans (hM.row _ (List.mem_of_getElem? hM0))
    have hb0 := sF _ _ ha0
    -- rows = len(machine); signs = len(machine[0])
    refine ⟨_, rfl, a, rs, rfl, .inl (SqL.of h0), _, rfl, _, _, rfl, rfl, _, rfl, ifT (decide_eq_true (by omega)) ⟨_, _, rfl, rfl, _, rfl, ?_⟩⟩
    refine ifF (by rw [decide_eq_true (show (rs.length : Int) ≤ 4 by omega)]; rfl) ?_
    refine ⟨_, rfl, a, rs, _, _, rfl, rfl, SqL.of h0, atI_nat (j := 0) hx0, ?_⟩
    rw [e0]
    refine ⟨a0, es0, rfl, .inl (SqL.of hb0), _, rfl, _, _, rfl, rfl, _, rfl, ifT (decide_eq_true (by omega)) ⟨_, _, rfl, rfl, _, rfl, ?_⟩⟩
    refine ifF (by rw [decide_eq_true (show (es0.length : Int) ≤ 4 by omega)]; rfl) ?_
    -- all([len(row) == signs for row in machine])
    refine ⟨_, rfl, a, rfl, ⟨_, SqL.of h0⟩, fun D nD => lc_list (K := K) (a := a) (xs := rs) (fun i G => Gr mu0 F H F G ∧ G D = some (.lst (List.replicate i (V.bl true)))) ⟨g0.own nD, upd_same⟩ (fun i G _ p => SqL.of (p.1.fh _ _ ha)) ?_ ?_⟩
    · rintro i x G hi ⟨gG, hD⟩
      obtain ⟨row, hMi, b, es, rfl, hb, hes⟩ := hrs.get' hi
      have ls : es.length = S := hes.1.trans (hM.row _ (List.mem_of_getElem? hMi))
      have il : i < rs.length := (List.getElem?_eq_some_iff.mp hi).1
      refine ⟨rfl, ?_⟩
      refine yes ⟨_, rfl, b, es, rfl, .inl (SqL.of (gG.fh _ _ hb)), _, rfl, rfl, _, hD, by rw [List.length_replicate]; exact lt_size (by omega), ?_⟩
      have e : (V.bl (decide (V.int (es.length : Int) = V.int (es0.length : Int)))) = V.bl true := by rw [ls, ls0]; simp
      rw [e, rep_snoc]
      exact ⟨gG.set (ne_of_none' sF nD) (.inl nD), upd_same⟩
    · rintro G ⟨gG, hD⟩
      refine ⟨D, List.replicate rs.length true, rfl, SqL.of (by rw [map_rep]; exact hD), _, rfl, ifF (by rw [all_rep]; rfl) ?_⟩
      -- all([all([is_entry(entry, rows, signs) for entry in row]) for row in machine])
      refine ⟨_, rfl, a, rfl, ⟨_, SqL.of (gG.fh _ _ ha)⟩, fun D1 nD1 => lc_list (K := K) (a := a) (xs := rs) (fun i G1 => Gr mu0 F H F G1 ∧ H D1 = none ∧ G1 D1 = some (.lst (List.replicate i (V.bl true)))) ⟨gG.own nD1, gG.th _ nD1, upd_same⟩ (fun i G1 _ p => SqL.of (p.1.fh _ _ ha)) ?_ ?_⟩
      · rintro i x G1 hi ⟨gG1, nH, hD1⟩
        obtain ⟨row, hMi, b, es, rfl, hb, hes⟩ := hrs.get' hi
        have ls : es.length = S := hes.1.trans (hM.row _ (List.mem_of_getElem? hMi))
        have il : i < rs.length := (List.getElem?_eq_some_iff.mp hi).1
        refine ⟨rfl, yes ⟨_, rfl, b, rfl, ⟨_, SqL.of (gG1.fh _ _ hb)⟩, fun D2 nD2 => lc_list (K := K) (a := b) (xs := es) (fun j G2 => Gr mu0 F H F G2 ∧ H D2 = none ∧ D1 ≠ D2 ∧ G2 D1 = some (.lst (List.replicate i (V.bl true))) ∧ G2 D2 = some (.lst (List.replicate j (V.bl true))))
          ⟨gG1.own nD2, gG1.th _ nD2, ne_of_none hD1 nD2, by rw [upd_ne (ne_of_none hD1 nD2)]; exact hD1, upd_same⟩ (fun j G2 _ p => SqL.of (p.1.fh _ _ hb)) ?_ ?_⟩⟩
        · rintro j y G2 hj ⟨gG2, nH2, d12, h1, h2⟩
          obtain ⟨e, hej, hye⟩ := hes.get' hj
          have jl : j < es.length := (List.getElem?_eq_some_iff.mp hj).1
          refine ⟨rfl, yes ⟨_, rfl, _, rfl, _, rfl, F, y, e, R, S, ?_, gG2.fh, hye, hM.ent _ (List.mem_of_getElem? hMi) _ (List.mem_of_getElem? hej), fun G3 g3 => ?_⟩⟩
          · rw [lrs, ls0]
            rfl
          · have gH3 := gG2.trans g3
            refine ⟨_, g3.fr _ _ h2 (fun z => z), by rw [List.length_replicate]; exact lt_size (by omega), ?_⟩
            rw [rep_snoc]
            exact ⟨gH3.set (sF.free nH2) (.inl nH2), nH2, d12, by rw [upd_ne d12]; exact g3.fr _ _ h1 (fun z => z), upd_same⟩
        · rintro G2 ⟨gG2, nH2, d12, h1, h2⟩
          refine ⟨D2, List.replicate es.length true, rfl, SqL.of (by rw [map_rep]; exact h2), ?_⟩
          refine ⟨_, h1, by rw [List.length_replicate]; exact lt_size (by omega), ?_⟩
          rw [all_rep, rep_snoc]
          exact ⟨gG2.set (sF.free nH) (.inl nH), nH, upd_same⟩
      · rintro G1 ⟨gG1, nH, hD1⟩
        refine ⟨D1, List.replicate rs.length true, rfl, SqL.of (by rw [map_rep]; exact hD1), ?_⟩
        rw [all_rep]
        exact q _ gG1
def sp_must_machine : Sp := fun vs H Q _ => ∃ (F : Hp) (v : V) (M : Mach) (R S : Nat), vs = [v] ∧ Same F H ∧ Is F v M ∧ MOk M R S ∧ ∀ H', Gr mu0 F H F H' → Q .non H'
theorem ok_must_machine (t : Tx K mg) : FnOk P w K mg base CX0 3 t.a_must_machine t.fd_must_machine ["machine"] sp_must_machine := by
  refine t.F_must_machine.ok sc_must_machine (fun vs H Q E h => ?_) (fun cdv A outer s H vs Q E hr h => ?_)
  · obtain ⟨F, v, M, R, S, rfl, _⟩ := h
    rfl
  · obtain ⟨F, v, M, R, S, rfl, sF, hv, hM, q⟩ := h
    refine ⟨_, (pss_one (ps_if (pt_not (pt_val (pe_call (ok_is_machine t) (hr.mono (by decide)) (by rfl) t.m_is_machine t.F_is_machine.kp t.b_is_machine .nil pass0 (pa_cons (pv 0) pa_nil)))) (pss_one ps_never) pss_nil)), ?_⟩
    exact ⟨_, rfl, F, _, M, R, S, rfl, sF, hv, hM, fun H' g => ⟨_, rfl, ifF rfl (q _ g)⟩⟩
/-! ### machines, runs drawn -/
theorem at2 {a b : V} {c : Bool} : atI [a, b] (if c then 1 else 0) = some (if c then b else a) := by cases c <;> rfl
def sp_L_entry : Sp := fun vs H Q _ => ∃ (F : Hp) (p : Addr) (R S few b row : Int), vs = [.ref p, .int R, .int S, .int row, .int few] ∧ Same F H ∧ F p = none ∧ PuAt H p b ∧ b ≤ 800000 ∧ 0 < R ∧ R ≤ 4 ∧ 0 < S ∧ S ≤ 4 ∧ 0 ≤ row ∧ row < R ∧ 0 < few ∧ few ≤ 100 ∧
  ∀ (F' H' : Hp) (v : V) (e : Ent), Gr (muP p) F H F' H' → PuAt H' p (b + 10) → Is F' v e → (∀ p w r, e = .go p w r → (0 ≤ p ∧ p < S) ∧ (w = -1 ∨ w = 1) ∧ 0 ≤ r ∧ r < R) → Q v H'
theorem ok_L_entry (t : Tx K mg) : FnOk P w K mg base CX0 3 t.a_L_entry t.fd_L_entry ["_law_purse_here", "_law_rows", "_law_signs", "_law_row", "_law_few"] sp_L_entry := by
  refine t.F_L_entry.ok sc_L_entry (fun vs H Q E h => ?_) (fun cdv A outer s H vs Q E hr h => ?_)
  · obtain ⟨F, p, R, S, few, b, row, rfl, _⟩ := h
    rfl
  · obtain ⟨F, p, R, S, few, b, row, rfl, sF, fp, hp, hb, R0, R4, S0, S4, r0, r1, f0, f1, q⟩ := h
    refine ⟨_, (pss_cons (ps_set (i := 5) sc_L_entry.nd rfl (by first | exact Or.inl rfl | exact Or.inr rfl) (pe_call (ok_L_draw t) (hr.mono (by decide)) (by rfl) t.m_L_draw t.F_L_draw.kp t.b_L_draw .nil pass0 (pa_cons (pv 0) (pa_cons (pv 2) pa_nil))))
      (pss_cons (ps_set (i := 6) sc_L_entry.nd rfl (by first | exact Or.inl rfl | exact Or.inr rfl) (pe_op op_sub (pe_op op_mul pe_int (pe_call (ok_L_draw t) (hr.mono (by decide)) (by rfl) t.m_L_draw t.F_L_draw.kp t.b_L_draw .nil pass0 (pa_cons (pv 0) (pa_cons pe_int pa_nil)))) pe_int))
      (pss_cons (ps_set (i := 7) sc_L_entry.nd rfl (by first | exact Or.inl rfl | exact Or.inr rfl) (pe_ix ix_list (pe_lst (pa_cons (pe_call (ok_L_draw t) (hr.mono (by decide)) (by rfl) t.m_L_draw t.F_L_draw.kp t.b_L_draw .nil pass0 (pa_cons (pv 0) (pa_cons (pv 1) pa_nil))) (pa_cons (pv 3) pa_nil))) (pe_callTy (T := "int") call_int1 (by rfl) t.n_int (by decide +kernel) (pa_cons (pe_cmpR op_eq (pe_call (ok_L_draw t) (hr.mono (by decide)) (by rfl) t.m_L_draw t.F_L_draw.kp t.b_L_draw .nil pass0 (pa_cons (pv 0) (pa_cons pe_int pa_nil))) pe_int (nomark _)) pa_nil)) (fun _ _ => rfl)))
      (pss_one (ps_ret (pe_ix ix_list (pe_lst (pa_cons (pe_tup (pa_cons (pv 5) (pa_cons (pv 6) (pa_cons (pv 7) pa_nil)))) (pa_cons (pe_tup pa_nil) pa_nil))) (pe_callTy (T := "int") call_int1 (by rfl) t.n_int (by decide +kernel) (pa_cons (pe_cmpR op_eq (pe_call (ok_L_draw t) (hr.mono (by decide)) (by rfl) t.m_L_draw t.F_L_draw.kp t.b_L_draw .nil pass0 (pa_cons (pv 0) (pa_cons (pv 4) pa_nil))) pe_int (nomark _)) pa_nil)) (fun _ _ => rfl))))))), ?_⟩
    refine ⟨_, rfl, _, rfl, F, p, S, b, rfl, sF, fp, hp, by omega, S0, by omega, fun d1 H1 d10 d11 g1 hp1 => ?_⟩
    refine ⟨_, rfl, F, p, 2, _, rfl, g1.fh, fp, hp1, by omega, by decide, by decide, fun d2 H2 d20 d21 g2 hp2 => ⟨_, _, rfl, rfl, .inl ⟨by decide, by decide⟩, _, _, rfl, rfl, ?_⟩⟩
    refine ⟨_, rfl, _, rfl, F, p, R, _, rfl, g2.fh, fp, hp2, by omega, R0, by omega, fun d3 H3 d30 d31 g3 hp3 => ⟨_, rfl, two_le, fun l nl => ?_⟩⟩
    have g4 := ((g1.trans g2).trans g3).own (o := .lst [.int d3, .int row]) nl
    have hl : (upd H3 l (.lst [.int d3, .int row])) l = some (.lst [.int d3, .int row]) := upd_same
    have hp4 := hp3.ln (o := .lst [.int d3, .int row]) nl
    have pl := hp3.ne nl
    generalize upd H3 l (.lst [.int d3, .int row]) = H4 at g4 hl hp4
    refine ⟨_, rfl, F, p, 3, _, rfl, g4.fh, fp, hp4, by omega, by decide, by decide, fun d4 H5 d40 d41 g5 hp5 => ⟨rfl, .inr ⟨_, rfl, ?_⟩⟩⟩
    have hl5 := g5.fr _ _ hl (Ne.symm pl)
    refine ⟨l, _, _, _, rfl, rfl, SqL.of hl5, at2, ?_⟩
    have et : ∃ r : Int, (if decide (V.int d4 = V.int 1) = true then V.int row else V.int d3) = V.int r ∧ 0 ≤ r ∧ r < R := by
      split
      · exact ⟨_, rfl, r0, r1⟩
      · exact ⟨_, rfl, d30, d31⟩
    obtain ⟨r, er, r0', r1'⟩ := et
    rw [er]
    have g6 := g4.trans g5
    refine ⟨_, rfl, _, rfl, _, rfl, three_le, fun q0 n0 => ⟨nil_le, fun q1 n1 => ⟨two_le, fun l2 nl2 => ?_⟩⟩⟩
    have g7 := (g6.new (o := .tup [.int d1, .int (2 * d2 - 1), .int r]) n0).new (o := .tup []) n1
    have hp7 := (hp5.ln (o := .tup [.int d1, .int (2 * d2 - 1), .int r]) n0).ln (o := .tup []) n1
    have i0 : Is (upd (upd F q0 (.tup [.int d1, .int (2 * d2 - 1), .int r])) q1 (.tup [])) (.ref q0) (Ent.go d1 (2 * d2 - 1) r) := ⟨q0, rfl, by rw [upd_ne (ne_of_none upd_same n1)]; exact upd_same⟩
    have i1 : Is (upd (upd F q0 (.tup [.int d1, .int (2 * d2 - 1), .int r])) q1 (.tup [])) (.ref q1) Ent.emp := ⟨q1, rfl, upd_same⟩
    have fp7 := hp.f fp g7
    generalize upd (upd F q0 (.tup [.int d1, .int (2 * d2 - 1), .int r])) q1 (.tup []) = F7 at g7 i0 i1 fp7
    generalize upd (upd H5 q0 (.tup [.int d1, .int (2 * d2 - 1), .int r])) q1 (.tup []) = H7 at g7 hp7 nl2
    have g8 := g7.own (o := .lst [.ref q0, .ref q1]) nl2
    have hl8 : (upd H7 l2 (.lst [.ref q0, .ref q1])) l2 = some (.lst [.ref q0, .ref q1]) := upd_same
    have hp8 := hp7.ln (o := .lst [.ref q0, .ref q1]) nl2
    have pl2 := hp7.ne nl2
    generalize upd H7 l2 (.lst [.ref q0, .ref q1]) = H8 at g8 hl8 hp8
    refine ⟨_, rfl, _, rfl, F7, p, few, _, rfl, g8.fh, fp7, hp8, by omega, f0, by omega, fun d5 H9 d50 d51 g9 hp9 => ⟨rfl, .inr ⟨_, rfl, ?_⟩⟩⟩
    refine ⟨l2, _, _, _, rfl, rfl, SqL.of (g9.fr _ _ hl8 (Ne.symm pl2)), at2, ?_⟩
    by_cases c : decide (V.int d5 = V.int 1) = true
    · rw [if_pos c]
      exact q F7 H9 _ Ent.emp (g8.trans g9) (hp9.le (by omega)) i1 (fun p w r z => nomatch z)
    · rw [if_neg c]
      refine q F7 H9 _ _ (g8.trans g9) (hp9.le (by omega)) i0 fun p w r' z => ?_
      cases z
      exact ⟨⟨d10, d11⟩, by omega, r0', r1'⟩
theorem Ow.frz' {H F H1 : Hp} {q r : Addr} {o u : HO} (w : Ow H F H1 q o) (e : q ≠ r) : Ow H (upd F r u) H1 q o := ⟨w.n, by rw [upd_ne e]; exact w.f, w.h⟩
theorem Ow.neq {H F H1 : Hp} {q r : Addr} {o : HO} (w : Ow H F H1 q o) {u : HO} (h : H r = some u) : q ≠ r := fun e => by rw [← e, w.n] at h; cases h
def sp_L_machine : Sp := fun vs H Q _ => ∃ (F : Hp) (p : Addr) (b : Int), vs = [.ref p] ∧ Same F H ∧ F p = none ∧ PuAt H p b ∧ b ≤ 700000 ∧
  ∀ (F' H' : Hp) (v : V) (M : Mach) (R S : Nat), Gr (muP p) F H F' H' → PuAt H' p (b + 1000) → MOk M R S → Is F' v M → Q v H'
theorem ok_L_machine (t : Tx K mg) : FnOk P w K mg base CX0 4 t.a_L_machine t.fd_L_machine ["_law_purse_here"] sp_L_machine := by
  refine t.F_L_machine.ok sc_L_machine (fun vs H Q E h => ?_) (fun cdv A outer s H vs Q E hr h => ?_)
  · obtain ⟨F, p, b, rfl, _⟩ := h
    rfl
  · obtain ⟨F, p, b, rfl, sF, fp, hp, hb, q⟩ := h
    refine ⟨_, (pss_cons (ps_set (i := 1) sc_L_machine.nd rfl (by first | exact Or.inl rfl | exact Or.inr rfl) (pe_op op_add pe_int (pe_call (ok_L_draw t) (hr.mono (by decide)) (by rfl) t.m_L_draw t.F_L_draw.kp t.b_L_draw .nil pass0 (pa_cons (pv 0) (pa_cons pe_int pa_nil)))))
      (pss_cons (ps_set (i := 2) sc_L_machine.nd rfl (by first | exact Or.inl rfl | exact Or.inr rfl) (pe_op op_add pe_int (pe_call (ok_L_draw t) (hr.mono (by decide)) (by rfl) t.m_L_draw t.F_L_draw.kp t.b_L_draw .nil pass0 (pa_cons (pv 0) (pa_cons pe_int pa_nil)))))
      (pss_cons (ps_set (i := 3) sc_L_machine.nd rfl (by first | exact Or.inl rfl | exact Or.inr rfl) (pe_ix ix_list (pe_lst (pa_cons pe_int (pa_cons pe_int (pa_cons pe_int (pa_cons pe_int pa_nil))))) (pe_call (ok_L_draw t) (hr.mono (by decide)) (by rfl) t.m_L_draw t.F_L_draw.kp t.b_L_draw .nil pass0 (pa_cons (pv 0) (pa_cons pe_int pa_nil))) (fun _ _ => rfl)))
      (pss_one (ps_ret (pe_lc (own := [("_law_row", 5)]) (g := gName 5) (tt := tYes) rfl sc_L_machine.nd (pi_range1 (by rfl) t.n_range (pa_cons (pv 1) pa_nil)) (blkOk_by (N := N_L_machine) (sc := defScope s_L_machine) (by decide +kernel)) (fun _ _ _ _ _ => (pg_name (i := 5) sc_L_machine.nd rfl (by first | exact Or.inl rfl | exact Or.inr rfl))) (fun _ _ _ _ _ => pts_nil) (fun _ _ _ _ _ => (pe_lc (own := [("_law_sign", 4)]) (g := gName 4) (tt := tYes) rfl sc_L_machine.nd (pi_range1 (by rfl) t.n_range (pa_cons (pv 2) pa_nil)) (blkOk_by (N := N_L_machine) (sc := { kind := PySem.ScopeKind.function, names := [(PySem.Str.ofString ".0", PySem.NameKind.local), (PySem.Str.ofString "_law_row", PySem.NameKind.cell), (PySem.Str.ofString "range", PySem.NameKind.globalImplicit), (PySem.Str.ofString "_law_few", PySem.NameKind.cell), (PySem.Str.ofString "_law_purse_here", PySem.NameKind.cell), (PySem.Str.ofString "_law_rows", PySem.NameKind.cell), (PySem.Str.ofString "_law_signs", PySem.NameKind.cell)], isGenerator := false, isCoroutine := false }) (by decide +kernel)) (fun _ _ _ _ _ => (pg_name (i := 4) sc_L_machine.nd rfl (by first | exact Or.inl rfl | exact Or.inr rfl))) (fun _ _ _ _ _ => pts_nil) (fun _ _ _ _ _ => (pe_call (ok_L_entry t) (hr.mono (by decide)) (by rfl) t.m_L_entry t.F_L_entry.kp t.b_L_entry .nil pass0 (pa_cons (pv 0) (pa_cons (pv 1) (pa_cons (pv 2) (pa_cons (pv 5) (pa_cons (pv 3) pa_nil))))))))))))))), ?_⟩
    obtain ⟨po, hpo⟩ := hp.ex
    refine ⟨_, rfl, F, p, 4, b, rfl, sF, fp, hp, by omega, by decide, by decide, fun d1 H1 d10 d11 g1 hp1 => ⟨_, _, rfl, rfl, ?_⟩⟩
    refine ⟨_, rfl, F, p, 3, _, rfl, g1.fh, fp, hp1, by omega, by decide, by decide, fun d2 H2 d20 d21 g2 hp2 => ⟨_, _, rfl, rfl, ?_⟩⟩
    refine ⟨by show 4 ≤ sizeLine; decide, fun l nl => ?_⟩
    have g3 := (g1.trans g2).own (o := .lst [.int 4, .int 9, .int 20, .int 60]) nl
    have hl : (upd H2 l (.lst [.int 4, .int 9, .int 20, .int 60])) l = some (.lst [.int 4, .int 9, .int 20, .int 60]) := upd_same
    have hp3 := hp2.ln (o := .lst [.int 4, .int 9, .int 20, .int 60]) nl
    have pl := hp2.ne nl
    generalize upd H2 l (.lst [.int 4, .int 9, .int 20, .int 60]) = H3 at g3 hl hp3
    refine ⟨_, rfl, F, p, 4, _, rfl, g3.fh, fp, hp3, by omega, by decide, by decide, fun d3 H4 d30 d31 g4 hp4 => ?_⟩
    have ef : ∃ f : Int, atI [V.int 4, V.int 9, V.int 20, V.int 60] d3 = some (.int f) ∧ 0 < f ∧ f ≤ 100 := by
      rcases (by omega : d3 = 0 ∨ d3 = 1 ∨ d3 = 2 ∨ d3 = 3) with rfl | rfl | rfl | rfl <;> exact ⟨_, rfl, by decide, by decide⟩
    obtain ⟨few, ef, f0, f1⟩ := ef
    refine ⟨l, _, _, _, rfl, rfl, SqL.of (g4.fr _ _ hl (Ne.symm pl)), ef, ?_⟩
    have g5 := g3.trans g4
    have eR : ((1 + d1).toNat : Int) = 1 + d1 := Int.toNat_of_nonneg (by omega)
    have eS : ((2 + d2).toNat : Int) = 2 + d2 := Int.toNat_of_nonneg (by omega)
    generalize hR : (1 + d1).toNat = R at eR
    generalize hS : (2 + d2).toNat = S at eS
    dsimp only
    rw [← eR, ← eS]
    refine ⟨_, rfl, (R : Int), rfl, by omega, by omega, fun D nD => ?_⟩
    have pD := hp4.ne nD
    refine lc_range (lo := 0) (n := ((R : Int)).toNat) (fun i G => ∃ (F1 : Hp) (rs : List V) (M : Mach) (b1 : Int), Gr (muP p) F H F1 G ∧ PuAt G p b1 ∧ b1 ≤ b + 8 + 40 * i ∧ Ow H F1 G D (.lst rs) ∧ IsAll F1 rs M ∧ M.length = i ∧ ∀ row ∈ M, row.length = S ∧ ∀ e ∈ row, EOk R S e)
      ⟨F, [], [], _, g5.own nD, hp4.ln nD, by omega, Ow.mk1 g5 nD, All2.nil, rfl, fun row z => nomatch z⟩ ?_ ?_
    · rintro i G hi ⟨F1, rs, M, b1, g, hpG, hb1, w, al, lM, hM⟩
      have iR : i < R := by omega
      refine ⟨rfl, yes ⟨_, rfl, (S : Int), rfl, by omega, by omega, fun r nr => ?_⟩⟩
      have pr := hpG.ne nr
      have Dr : D ≠ r := w.ne nr
      refine lc_range (lo := 0) (n := ((S : Int)).toNat) (fun j G => ∃ (F2 : Hp) (es : List V) (row : List Ent) (b2 : Int), Gr (muP p) F H F2 G ∧ PuAt G p b2 ∧ b2 ≤ b1 + 10 * j ∧ Ow H F2 G D (.lst rs) ∧ Ow H F2 G r (.lst es) ∧ IsAll F2 rs M ∧ IsAll F2 es row ∧ row.length = j ∧ ∀ e ∈ row, EOk R S e)
        ⟨F1, [], [], b1, g.own nr, hpG.ln nr, by omega, w.own nr, Ow.mk1 g nr, al, All2.nil, rfl, fun e z => nomatch z⟩ ?_ ?_
      · rintro j G hj ⟨F2, es, row, b2, g, hpG, hb2, w, wr, al, ae, lr, hrow⟩
        have jS : j < S := by omega
        refine ⟨rfl, yes ⟨_, rfl, _, rfl, _, rfl, _, rfl, _, rfl, F2, p, (R : Int), (S : Int), few, b2, (0 + i : Int), rfl, g.fh, hp.f fp g, hpG, by omega, by omega, by omega, by omega, by omega, by omega, by omega, f0, f1, fun F3 G3 v e g3 hp3 ie eo => ?_⟩⟩
        have w3 := w.call g3 (Ne.symm pD)
        have wr3 := wr.call g3 (Ne.symm pr)
        refine ⟨es, wr3.h, by rw [ae.1, lr]; exact lt_size (by omega), F3, es ++ [v], row ++ [e], _, (g.trans g3).set wr3.f (.inl wr3.n), hp3.off pr, by omega, w3.other Dr, wr3.set, al.up g3.ff, (ae.up g3.ff).app (All2.one ie), by rw [List.length_append, lr]; rfl, fun e' z => ?_⟩
        rcases List.mem_append.mp z with z | z
        · exact hrow e' z
        · rw [List.mem_singleton.mp z]; exact ⟨eo⟩
      · rintro G ⟨F2, es, row, b2, g, hpG, hb2, w, wr, al, ae, lr, hrow⟩
        have lr : row.length = S := by rw [lr]; exact Int.toNat_natCast S
        have g2 := g.frz wr.h wr.n wr.f
        have s2 : Same F2 (upd F2 r (.lst es)) := sm_new (Same.refl F2) wr.f
        have w2 := w.frz' (u := .lst es) Dr
        refine ⟨rs, w2.h, by rw [al.1, lM]; exact lt_size (by omega), upd F2 r (.lst es), rs ++ [.ref r], M ++ [row], b2, g2.set w2.f (.inl w2.n), hpG.off pD, by omega, w2.set, (al.up s2).app (All2.one ⟨r, es, rfl, upd_same, ae.up s2⟩), by rw [List.length_append, lM]; rfl, fun row' z => ?_⟩
        rcases List.mem_append.mp z with z | z
        · exact hM row' z
        · rw [List.mem_singleton.mp z]; exact ⟨lr, hrow⟩
    · rintro G ⟨F1, rs, M, b1, g, hpG, hb1, w, al, lM, hM⟩
      have lM : M.length = R := by rw [lM]; exact Int.toNat_natCast R
      have hb1 : b1 ≤ b + 8 + 40 * R := by rw [show ((R : Int).toNat : Int) = R from by rw [Int.toNat_natCast]] at hb1; exact hb1
      refine q (upd F1 D (.lst rs)) G _ M R S (g.frz w.h w.n w.f) (hpG.le (by omega)) ⟨by omega, by omega, by omega, by omega, lM, fun r z => (hM r z).1, fun r z => (hM r z).2⟩ ⟨D, rs, rfl, upd_same, al.up (sm_new (Same.refl F1) w.f)⟩
abbrev Rs := T3 (List PI) Int (List PI)
def OkS (S : Nat) (l : List PI) : Prop := ∀ q ∈ l, (0 ≤ q.a ∧ q.a < S) ∧ 1 ≤ q.b
theorem OkS.nil {S : Nat} : OkS S [] := fun q z => nomatch z
theorem OkS.rev {S : Nat} {l : List PI} (h : OkS S l) : OkS S l.reverse := fun q z => h q (List.mem_reverse.mp z)
theorem All2.rev {α β : Type} {r : α → β → Prop} : ∀ {xs : List α} {ys : List β}, All2 r xs ys → All2 r xs.reverse ys.reverse
  | [], [], _ => All2.nil
  | [], y :: ys, h => by have := h.1; simp at this
  | x :: xs, [], h => by have := h.1; simp at this
  | x :: xs, y :: ys, h => by
    rw [List.reverse_cons, List.reverse_cons]
    exact (All2.rev (xs := xs) (ys := ys) ⟨by have := h.1; simpa using this, fun i a b p q => h.2 (i + 1) a b (by simpa using p) (by simpa using q)⟩).app (All2.one (h.2 0 x y rfl rfl))
def OkR (S : Nat) (x : Rs) : Prop := (OkS S x.a ∧ x.a.length ≤ 900) ∧ (0 ≤ x.b ∧ x.b < S) ∧ OkS S x.c ∧ x.c.length ≤ 900
/-! ### words -/
/-- a text that may stand in a datum -/
structure TStr where
  x : Str
  ok : PyData.strOk x = true
  deriving DecidableEq
instance : Dat TStr where
  rep := fun _ v d => v = .str d.x
  mono := fun _ h => h
  py := fun d => .str d.x
  dp := fun h => h ▸ .str _
  can := fun d => d.ok
  dep := 0
  depth := fun _ => Nat.le_refl _
  eqv := fun a b => by
    obtain ⟨a, _⟩ := a; obtain ⟨b, _⟩ := b
    simp [PyData.eqv]
/-! ### an entry -/
def entAt (M : Mach) (r s : Int) : Ent := (((M[r.toNat]?).getD [])[s.toNat]?).getD .emp
theorem ent_of {M : Mach} {R S : Nat} (h : MOk M R S) {r s : Int} (r0 : 0 ≤ r) (r1 : r < R) (s0 : 0 ≤ s) (s1 : s < S) : ∃ row, M[r.toNat]? = some row ∧ row[s.toNat]? = some (entAt M r s) ∧ EOk R S (entAt M r s) := by
  have hr : r.toNat < M.length := by rw [h.len]; omega
  have e1 : M[r.toNat]? = some M[r.toNat] := List.getElem?_eq_getElem hr
  have hs : s.toNat < (M[r.toNat]).length := by rw [h.row _ (List.getElem_mem hr)]; omega
  have e2 : (M[r.toNat])[s.toNat]? = some (M[r.toNat])[s.toNat] := List.getElem?_eq_getElem hs
  have e3 : entAt M r s = (M[r.toNat])[s.toNat] := by
    unfold entAt
    rw [e1]
    show ((M[r.toNat])[s.toNat]?).getD Ent.emp = _
    rw [e2]; rfl
  exact ⟨_, e1, by rw [e3]; exact e2, by rw [e3]; exact h.ent _ (List.getElem_mem hr) _ (List.getElem_mem hs)⟩
def tEnd : TStr := ⟨"end", by decide +kernel⟩
/-! ### out of a block -/
def tOut : TStr := ⟨"out", by decide +kernel⟩
def tStay : TStr := ⟨"stay", by decide +kernel⟩
/-! ### the mirrored machine -/
def mirE : Ent → Ent
  | .emp => .emp
  | .go p w r => .go p (0 - w) r
def mirM (M : Mach) : Mach := M.map fun row => row.map mirE
theorem MOk.mir {M : Mach} {R S : Nat} (h : MOk M R S) : MOk (mirM M) R S := by
  refine ⟨h.r1, h.r4, h.s2, h.s4, by unfold mirM; rw [List.length_map]; exact h.len, fun r m => ?_, fun r m e k => ?_⟩
  · obtain ⟨r0, m0, rfl⟩ := List.mem_map.mp m
    rw [List.length_map]; exact h.row r0 m0
  · obtain ⟨r0, m0, rfl⟩ := List.mem_map.mp m
    obtain ⟨e0, k0, rfl⟩ := List.mem_map.mp k
    have o := h.ent r0 m0 e0 k0
    cases e0 with
    | emp => exact ⟨fun p w r z => nomatch z⟩
    | go p w r =>
      obtain ⟨o1, o2, o3⟩ := o.ok p w r rfl
      refine ⟨fun p' w' r' z => ?_⟩
      cases z
      exact ⟨o1, by omega, o3⟩
/-! ### blocks, gone through (plain) -/
structure Bs where
  s : List Int
  p : Int
  r : Int
  deriving DecidableEq
inductive Bn where
  | nxt (b : Bs)
  | lv (w : TStr) (s : List Int) (r x d : Int)
def sgn (b : Bs) : Int := (b.s[b.p.toNat]?).getD 0
def bn (M : Mach) (b : Bs) : Bn := match entAt M b.r (sgn b) with
  | .emp => .lv tEnd b.s b.r b.p 0
  | .go pu wa to => if 0 ≤ b.p + wa ∧ b.p + wa < (b.s.length : Int) then .nxt ⟨b.s.set b.p.toNat pu, b.p + wa, to⟩ else .lv tOut (b.s.set b.p.toNat pu) to wa 1
theorem bn_emp {M : Mach} {b : Bs} (e : entAt M b.r (sgn b) = .emp) : bn M b = .lv tEnd b.s b.r b.p 0 := by
  unfold bn; rw [e]
theorem bn_go {M : Mach} {b : Bs} {pu wa to : Int} (e : entAt M b.r (sgn b) = .go pu wa to) (h : 0 ≤ b.p + wa ∧ b.p + wa < (b.s.length : Int)) : bn M b = .nxt ⟨b.s.set b.p.toNat pu, b.p + wa, to⟩ := by
  unfold bn; rw [e]; exact if_pos h
theorem bn_out {M : Mach} {b : Bs} {pu wa to : Int} (e : entAt M b.r (sgn b) = .go pu wa to) (h : ¬ (0 ≤ b.p + wa ∧ b.p + wa < (b.s.length : Int))) : bn M b = .lv tOut (b.s.set b.p.toNat pu) to wa 1 := by
  unfold bn; rw [e]; exact if_neg h
def tj (M : Mach) : Nat → Bs → Option Bs
  | 0, b => some b
  | n + 1, b => match bn M b with
    | .nxt c => tj M n c
    | .lv .. => none
inductive ThR where
  | stay
  | fin (w : TStr) (s : List Int) (r x n : Int)
  deriving DecidableEq
def bgo (M : Mach) : Nat → Bs → Int → ThR
  | 0, _, _ => .stay
  | n + 1, b, k => match bn M b with
    | .nxt c => bgo M n c (k + 1)
    | .lv w s r x d => .fin w s r x (k + d)
section
variable {M : Mach} {b c : Bs}
theorem tj_nxt {n : Nat} (e : bn M b = .nxt c) : tj M (n + 1) b = tj M n c := by
  show (match bn M b with | .nxt c => tj M n c | .lv .. => none) = _
  rw [e]
theorem tj_lv {n : Nat} {w s r x d} (e : bn M b = .lv w s r x d) : tj M (n + 1) b = none := by
  show (match bn M b with | .nxt c => tj M n c | .lv .. => none) = _
  rw [e]
theorem bgo_nxt {n : Nat} {k : Int} (e : bn M b = .nxt c) : bgo M (n + 1) b k = bgo M n c (k + 1) := by
  show (match bn M b with | .nxt c => bgo M n c (k + 1) | .lv w s r x d => .fin w s r x (k + d)) = _
  rw [e]
theorem bgo_lv {n : Nat} {k : Int} {w s r x d} (e : bn M b = .lv w s r x d) : bgo M (n + 1) b k = .fin w s r x (k + d) := by
  show (match bn M b with | .nxt c => bgo M n c (k + 1) | .lv w s r x d => .fin w s r x (k + d)) = _
  rw [e]
theorem tj_add (M : Mach) : ∀ (m n : Nat) (b : Bs), tj M (m + n) b = (tj M m b).bind (tj M n)
  | 0, n, b => by rw [Nat.zero_add]; rfl
  | m + 1, n, b => by
    rw [show m + 1 + n = (m + n) + 1 by omega]
    cases e : bn M b with
    | nxt c => rw [tj_nxt e, tj_nxt e]; exact tj_add M m n c
    | lv w s r x d => rw [tj_lv e, tj_lv e]; rfl
theorem tj_at {m n : Nat} {c : Bs} (h : tj M m b = some c) : tj M (m + n) b = tj M n c := by
  rw [tj_add, h]; rfl
theorem tj_le {m n : Nat} (l : m ≤ n) (h : tj M n b ≠ none) : tj M m b ≠ none := fun z => by
  obtain ⟨k, rfl⟩ := Nat.le.dest l
  rw [tj_add, z] at h
  exact h rfl
/-- it leaves behind i steps, from c -/
theorem bgo_of : ∀ (i n : Nat) (b : Bs) (k : Int) (c : Bs) (w : TStr) (s : List Int) (r x d : Int), tj M i b = some c → bn M c = .lv w s r x d → i < n → bgo M n b k = .fin w s r x (k + i + d)
  | 0, n + 1, b, k, c, w, s, r, x, d, h, e, _ => by
    cases h
    rw [bgo_lv e]; congr 1; omega
  | i + 1, n + 1, b, k, c, w, s, r, x, d, h, e, l => by
    cases eb : bn M b with
    | nxt b' =>
      rw [tj_nxt eb] at h
      rw [bgo_nxt eb, bgo_of i n b' (k + 1) c w s r x d h e (by omega)]
      congr 1; omega
    | lv w s r x d => rw [tj_lv eb] at h; cases h
theorem bgo_fin : ∀ (n : Nat) (b : Bs) (k : Int) (w : TStr) (s : List Int) (r x m : Int), bgo M n b k = .fin w s r x m → ∃ (i : Nat) (c : Bs) (d : Int), i < n ∧ tj M i b = some c ∧ bn M c = .lv w s r x d ∧ m = k + i + d
  | 0, b, k, w, s, r, x, m, h => by cases h
  | n + 1, b, k, w, s, r, x, m, h => by
    cases eb : bn M b with
    | nxt b' =>
      rw [bgo_nxt eb] at h
      obtain ⟨i, c, d, l, h1, h2, h3⟩ := bgo_fin n b' (k + 1) w s r x m h
      exact ⟨i + 1, c, d, by omega, by rw [tj_nxt eb]; exact h1, h2, by rw [h3]; omega⟩
    | lv w' s' r' x' d' =>
      rw [bgo_lv eb] at h
      cases h
      exact ⟨0, b, d', by omega, rfl, eb, by omega⟩
theorem bgo_stay : ∀ (n : Nat) (b : Bs) (k : Int), bgo M n b k = .stay → tj M n b ≠ none
  | 0, b, k, _ => fun z => nomatch z
  | n + 1, b, k, h => by
    cases eb : bn M b with
    | nxt b' =>
      rw [bgo_nxt eb] at h
      rw [tj_nxt eb]
      exact bgo_stay n b' _ h
    | lv w' s' r' x' d' => rw [bgo_lv eb] at h; cases h
/-- it never leaves -/
def NV (M : Mach) (b : Bs) : Prop := ∀ n, tj M n b ≠ none
theorem NV.fin {w s r x m} (h : NV M b) (n : Nat) (k : Int) : bgo M n b k ≠ .fin w s r x m := fun z => by
  obtain ⟨i, c, d, _, h1, h2, _⟩ := bgo_fin n b k w s r x m z
  refine h (i + 1) ?_
  rw [tj_at h1, tj_lv h2]
theorem NV.stay (h : NV M b) (n : Nat) (k : Int) : bgo M n b k = .stay := by
  cases e : bgo M n b k with
  | stay => rfl
  | fin w s r x m => exact absurd e (h.fin n k)
theorem NV.of {i : Nat} (h : tj M i b = some c) (z : NV M c) : NV M b := fun n => by
  refine tj_le (n := i + n) (by omega) ?_
  rw [tj_at h]; exact z n
theorem NV.cyc {d : Nat} (h : tj M d c = some c) (p : 0 < d) : NV M c := fun n => by
  have z : ∀ q, tj M (q * d) c = some c := fun q => by
    induction q with
    | zero => rw [Nat.zero_mul]; rfl
    | succ q ih => rw [Nat.succ_mul, tj_at ih, h]
  refine tj_le (n := n * d) (Nat.le_mul_of_pos_right n p) ?_
  rw [z]; exact fun e => nomatch e
theorem NV.two {i j : Nat} (l : i < j) (h : tj M i b = some c) (h' : tj M j b = some c) : NV M b := by
  refine NV.of h (NV.cyc (d := j - i) ?_ (by omega))
  rw [← tj_at (n := j - i) h, show i + (j - i) = j by omega]; exact h'
end
/-! ### how many there are -/
theorem pig : ∀ (n : Nat) (f : Nat → Nat), (∀ i, i ≤ n → f i < n) → ∃ i j, i < j ∧ j ≤ n ∧ f i = f j
  | 0, f, h => absurd (h 0 (Nat.le_refl 0)) (by omega)
  | n + 1, f, h => by
    by_cases e : ∃ i, i ≤ n ∧ f i = f (n + 1)
    · obtain ⟨i, l, e⟩ := e
      exact ⟨i, n + 1, by omega, Nat.le_refl _, e⟩
    · have e : ∀ i, i ≤ n → f i ≠ f (n + 1) := fun i l z => e ⟨i, l, z⟩
      have hl := h (n + 1) (Nat.le_refl _)
      obtain ⟨i, j, l, lj, q⟩ := pig n (fun i => if f i = n then f (n + 1) else f i) fun i l => by
        have h1 := h i (by omega)
        have h2 := e i l
        show (if f i = n then f (n + 1) else f i) < n
        split
        · omega
        · omega
      refine ⟨i, j, l, by omega, ?_⟩
      have ei := e i (by omega)
      have ej := e j lj
      have q : (if f i = n then f (n + 1) else f i) = (if f j = n then f (n + 1) else f j) := q
      split at q
      · split at q
        · omega
        · exact absurd q.symm ej
      · split at q
        · exact absurd q ei
        · exact q
def enc (S : Nat) : List Int → Nat
  | [] => 0
  | x :: l => x.toNat + S * enc S l
def SOk (S : Nat) (l : List Int) : Prop := ∀ x ∈ l, 0 ≤ x ∧ x < (S : Int)
theorem SOk.tail {S : Nat} {x : Int} {l : List Int} (h : SOk S (x :: l)) : SOk S l := fun y z => h y (List.mem_cons_of_mem _ z)
theorem SOk.app {S : Nat} {l m : List Int} (h : SOk S l) (k : SOk S m) : SOk S (l ++ m) := fun y z => (List.mem_append.mp z).elim (h y) (k y)
theorem SOk.set {S : Nat} {l : List Int} (h : SOk S l) {i : Nat} {v : Int} (k : 0 ≤ v ∧ v < (S : Int)) : SOk S (l.set i v) := fun y z => by
  rcases List.mem_or_eq_of_mem_set z with z | z
  · exact h y z
  · rw [z]; exact k
theorem SOk.rev {S : Nat} {l : List Int} (h : SOk S l) : SOk S l.reverse := fun y z => h y (List.mem_reverse.mp z)
theorem enc_lt {S : Nat} : ∀ {l : List Int}, SOk S l → enc S l < S ^ l.length
  | [], _ => by show 0 < 1; omega
  | x :: l, h => by
    have h1 := enc_lt h.tail
    have hx := h x (List.mem_cons_self ..)
    show x.toNat + S * enc S l < S ^ (l.length + 1)
    rw [Nat.pow_succ, Nat.mul_comm (S ^ l.length) S]
    have : S * (enc S l + 1) ≤ S * S ^ l.length := Nat.mul_le_mul_left S h1
    rw [Nat.mul_add, Nat.mul_one] at this
    omega
theorem div_eq2 {S x y a b : Nat} (hx : x < S) (hy : y < S) (e : x + S * a = y + S * b) : x = y ∧ a = b := by
  have p : 0 < S := by omega
  have e1 : (x + S * a) % S = x := by rw [Nat.add_mul_mod_self_left, Nat.mod_eq_of_lt hx]
  have e2 : (y + S * b) % S = y := by rw [Nat.add_mul_mod_self_left, Nat.mod_eq_of_lt hy]
  have exy : x = y := by rw [← e1, ← e2, e]
  subst exy
  refine ⟨rfl, Nat.eq_of_mul_eq_mul_left p (by omega)⟩
theorem enc_inj {S : Nat} : ∀ {l m : List Int}, SOk S l → SOk S m → l.length = m.length → enc S l = enc S m → l = m
  | [], [], _, _, _, _ => rfl
  | [], _ :: _, _, _, h, _ => by simp at h
  | _ :: _, [], _, _, h, _ => by simp at h
  | x :: l, y :: m, h, k, hl, e => by
    have hx := h x (List.mem_cons_self ..)
    have hy := k y (List.mem_cons_self ..)
    obtain ⟨e1, e2⟩ := div_eq2 (S := S) (x := x.toNat) (y := y.toNat) (by omega) (by omega) e
    rw [enc_inj h.tail k.tail (by simpa using hl) e2, show x = y by omega]
structure BOk (R S L : Nat) (b : Bs) : Prop where
  len : b.s.length = L
  s : SOk S b.s
  p0 : 0 ≤ b.p
  p1 : b.p < L
  r0 : 0 ≤ b.r
  r1 : b.r < R
section
variable {M : Mach} {R S L : Nat} {b c : Bs}
theorem BOk.sgn (h : BOk R S L b) : b.s[b.p.toNat]? = some (sgn b) ∧ 0 ≤ sgn b ∧ sgn b < S := by
  have l : b.p.toNat < b.s.length := by have := h.len; have := h.p0; have := h.p1; omega
  have e : b.s[b.p.toNat]? = some b.s[b.p.toNat] := List.getElem?_eq_getElem l
  have e2 : E.sgn b = b.s[b.p.toNat] := by unfold E.sgn; rw [e]; rfl
  rw [e2]
  exact ⟨e, h.s _ (List.getElem_mem l)⟩
theorem BOk.ent (h : BOk R S L b) (hM : MOk M R S) : EOk R S (entAt M b.r (E.sgn b)) := (ent_of hM h.r0 h.r1 h.sgn.2.1 h.sgn.2.2).choose_spec.2.2
theorem bn_ok (h : BOk R S L b) (hM : MOk M R S) (e : bn M b = .nxt c) : BOk R S L c := by
  have eo := h.ent hM
  cases ee : entAt M b.r (E.sgn b) with
  | emp => rw [bn_emp ee] at e; cases e
  | go pu wa to =>
    rw [ee] at eo
    obtain ⟨o1, o2, o3⟩ := eo.ok _ _ _ rfl
    by_cases z : 0 ≤ b.p + wa ∧ b.p + wa < (b.s.length : Int)
    · rw [bn_go ee z] at e
      cases e
      exact ⟨by rw [List.length_set]; exact h.len, h.s.set o1, z.1, by rw [← h.len]; exact z.2, o3.1, o3.2⟩
    · rw [bn_out ee z] at e; cases e
theorem tj_ok (hM : MOk M R S) : ∀ (n : Nat) (b c : Bs), BOk R S L b → tj M n b = some c → BOk R S L c
  | 0, b, c, h, e => by cases e; exact h
  | n + 1, b, c, h, e => by
    cases eb : bn M b with
    | nxt b' => rw [tj_nxt eb] at e; exact tj_ok hM n b' c (bn_ok h hM eb) e
    | lv w s r x d => rw [tj_lv eb] at e; cases e
def code (R S L : Nat) (b : Bs) : Nat := b.r.toNat + R * (b.p.toNat + L * enc S b.s)
theorem code_lt (h : BOk R S L b) : code R S L b < R * L * S ^ L := by
  have h1 := enc_lt h.s
  rw [h.len] at h1
  have hp : b.p.toNat < L := by have := h.p0; have := h.p1; omega
  have hr : b.r.toNat < R := by have := h.r0; have := h.r1; omega
  have a1 : L * (enc S b.s + 1) ≤ L * S ^ L := Nat.mul_le_mul_left L h1
  rw [Nat.mul_add, Nat.mul_one] at a1
  have a2 : b.p.toNat + L * enc S b.s + 1 ≤ L * S ^ L := by omega
  have a3 : R * (b.p.toNat + L * enc S b.s + 1) ≤ R * (L * S ^ L) := Nat.mul_le_mul_left R a2
  rw [Nat.mul_add, Nat.mul_one, ← Nat.mul_assoc] at a3
  show b.r.toNat + R * (b.p.toNat + L * enc S b.s) < _
  omega
theorem code_inj (h : BOk R S L b) (k : BOk R S L c) (e : code R S L b = code R S L c) : b = c := by
  have h1 := h.p0; have h2 := h.p1; have h3 := h.r0; have h4 := h.r1
  have k1 := k.p0; have k2 := k.p1; have k3 := k.r0; have k4 := k.r1
  obtain ⟨e1, e2⟩ := div_eq2 (S := R) (by omega) (by omega) e
  obtain ⟨e3, e4⟩ := div_eq2 (S := L) (by omega) (by omega) e2
  have e5 := enc_inj h.s k.s (h.len.trans k.len.symm) e4
  obtain ⟨s, p, r⟩ := b
  obtain ⟨s', p', r'⟩ := c
  simp only at *
  rw [e5, show p = p' by omega, show r = r' by omega]
/-- what has gone on for so long never leaves -/
theorem nv_of (hM : MOk M R S) (h : BOk R S L b) {N : Nat} (l : R * L * S ^ L ≤ N) (e : tj M N b ≠ none) : NV M b := by
  have a : ∀ i, i ≤ R * L * S ^ L → ∃ c, tj M i b = some c := fun i li => by
    cases z : tj M i b with
    | none => exact absurd z (tj_le (n := N) (by omega) e)
    | some c => exact ⟨c, rfl⟩
  obtain ⟨i, j, ij, jn, q⟩ := pig (R * L * S ^ L) (fun i => code R S L ((tj M i b).getD b)) fun i li => by
    obtain ⟨c, ec⟩ := a i li
    show code R S L ((tj M i b).getD b) < _
    rw [ec]
    exact code_lt (tj_ok hM i b c h ec)
  obtain ⟨c, ec⟩ := a i (by omega)
  obtain ⟨c', ec'⟩ := a j jn
  have q : code R S L ((tj M i b).getD b) = code R S L ((tj M j b).getD b) := q
  rw [ec, ec'] at q
  have e := code_inj (tj_ok hM i b c h ec) (tj_ok hM j b c' h ec') q
  rw [← e] at ec'
  exact NV.two ij ec ec'
end
/-! ### a block is gone through -/
def st0 (s : List Int) (row : Int) (far : Bool) : Bs := ⟨s, if far then (s.length : Int) - 1 else 0, row⟩
def mostB (R S L : Nat) : Nat := R * L * S ^ L
def thr (M : Mach) (R S : Nat) (s : List Int) (row : Int) (far : Bool) : ThR := bgo M (mostB R S s.length + 1) (st0 s row far) 0
section
variable {M : Mach} {R S L : Nat} {s : List Int} {row : Int} {far : Bool}
theorem st0_ok (h : SOk S s) (l : 1 ≤ s.length) (r0 : 0 ≤ row) (r1 : row < R) : BOk R S s.length (st0 s row far) := by
  refine ⟨rfl, h, ?_, ?_, r0, r1⟩
  · show 0 ≤ (if far then (s.length : Int) - 1 else 0); split <;> omega
  · show (if far then (s.length : Int) - 1 else 0) < s.length; split <;> omega
theorem thr_stay (hM : MOk M R S) (h : SOk S s) (l : 1 ≤ s.length) (r0 : 0 ≤ row) (r1 : row < R) (e : thr M R S s row far = .stay) : NV M (st0 s row far) :=
  nv_of hM (st0_ok h l r0 r1) (Nat.le_succ _) (bgo_stay _ _ _ e)
theorem thr_nv (e : NV M (st0 s row far)) : thr M R S s row far = .stay := e.stay _ _
theorem thr_fin {w s' r x m} (e : thr M R S s row far = .fin w s' r x m) : ∃ (i : Nat) (c : Bs) (d : Int), tj M i (st0 s row far) = some c ∧ bn M c = .lv w s' r x d ∧ m = i + d := by
  obtain ⟨i, c, d, _, h1, h2, h3⟩ := bgo_fin _ _ _ _ _ _ _ _ e
  exact ⟨i, c, d, h1, h2, by omega⟩
theorem thr_of (hM : MOk M R S) (h : SOk S s) (l : 1 ≤ s.length) (r0 : 0 ≤ row) (r1 : row < R) {i : Nat} {c : Bs} {w s' r x d} (e : tj M i (st0 s row far) = some c) (e' : bn M c = .lv w s' r x d) : thr M R S s row far = .fin w s' r x (i + d) := by
  by_cases z : i < mostB R S s.length + 1
  · have := bgo_of (M := M) i _ (st0 s row far) 0 c w s' r x d e e' z
    rw [Int.zero_add] at this
    exact this
  · exfalso
    have nv := nv_of (N := i) hM (st0_ok (far := far) h l r0 r1) (by unfold mostB at z; omega) (by rw [e]; exact fun z => nomatch z)
    exact nv (i + 1) (by rw [tj_at e, tj_lv e'])
end
/-! ### a block's halves -/
/-- a half's setup as one of the whole: g the other half, far: this one is the second -/
def emb (far : Bool) (g : List Int) (c : Bs) : Bs := if far then ⟨g ++ c.s, (g.length : Int) + c.p, c.r⟩ else ⟨c.s ++ g, c.p, c.r⟩
section
variable {M : Mach} {R S L : Nat} {c c' : Bs} {g : List Int} {far : Bool}
theorem get_app_r {g s : List Int} {p : Int} (h : 0 ≤ p) : (g ++ s)[((g.length : Int) + p).toNat]? = s[p.toNat]? := by
  rw [List.getElem?_append_right (by omega)]
  congr 1; omega
theorem set_app_r {g s : List Int} {p v : Int} (h : 0 ≤ p) : (g ++ s).set ((g.length : Int) + p).toNat v = g ++ s.set p.toNat v := by
  rw [List.set_append_right _ _ (by omega)]
  congr 2; omega
theorem sgn_emb (h : BOk R S L c) : sgn (emb far g c) = sgn c := by
  have l : c.p.toNat < c.s.length := by have := h.len; have := h.p0; have := h.p1; omega
  cases far
  · show ((c.s ++ g)[c.p.toNat]?).getD 0 = _
    rw [List.getElem?_append_left l]; rfl
  · show ((g ++ c.s)[((g.length : Int) + c.p).toNat]?).getD 0 = _
    rw [get_app_r h.p0]; rfl
theorem emb_r : (emb far g c).r = c.r := by cases far <;> rfl
theorem ent_emb (h : BOk R S L c) : entAt M (emb far g c).r (sgn (emb far g c)) = entAt M c.r (sgn c) := by rw [emb_r, sgn_emb h]
theorem emb_len : ((emb far g c).s.length : Int) = g.length + c.s.length := by
  cases far
  · show ((c.s ++ g).length : Int) = _; rw [List.length_append]; omega
  · show ((g ++ c.s).length : Int) = _; rw [List.length_append]; omega
theorem emb_p : (emb far g c).p = (if far then (g.length : Int) else 0) + c.p := by
  cases far
  · show c.p = 0 + c.p; omega
  · rfl
theorem emb_set (h : BOk R S L c) (v p r : Int) : (⟨(emb far g c).s.set (emb far g c).p.toNat v, (if far then (g.length : Int) else 0) + p, r⟩ : Bs) = emb far g ⟨c.s.set c.p.toNat v, p, r⟩ := by
  have l : c.p.toNat < c.s.length := by have := h.len; have := h.p0; have := h.p1; omega
  cases far
  · show (⟨(c.s ++ g).set c.p.toNat v, 0 + p, r⟩ : Bs) = ⟨c.s.set c.p.toNat v ++ g, p, r⟩
    rw [List.set_append_left _ _ l, Int.zero_add]
  · show (⟨(g ++ c.s).set ((g.length : Int) + c.p).toNat v, (g.length : Int) + p, r⟩ : Bs) = ⟨g ++ c.s.set c.p.toNat v, (g.length : Int) + p, r⟩
    rw [set_app_r h.p0]
theorem bn_emb_nxt (h : BOk R S L c) (e : bn M c = .nxt c') : bn M (emb far g c) = .nxt (emb far g c') := by
  cases ee : entAt M c.r (sgn c) with
  | emp => rw [bn_emp ee] at e; cases e
  | go pu wa to =>
    by_cases z : 0 ≤ c.p + wa ∧ c.p + wa < (c.s.length : Int)
    · rw [bn_go ee z] at e
      cases e
      have e2 := (ent_emb (M := M) (g := g) (far := far) h).trans ee
      have hp := @emb_p c g far
      have hl := @emb_len c g far
      rw [bn_go e2 (by rw [hp, hl]; split <;> omega), ← emb_set h, hp]
      congr 2; omega
    · rw [bn_out ee z] at e; cases e
theorem bn_emb_end {s : List Int} {r x d : Int} (h : BOk R S L c) (e : bn M c = .lv tEnd s r x d) : d = 0 ∧ s = c.s ∧ bn M (emb far g c) = .lv tEnd (emb far g c).s r ((if far then (g.length : Int) else 0) + x) 0 := by
  cases ee : entAt M c.r (sgn c) with
  | emp =>
    rw [bn_emp ee] at e
    cases e
    have e2 := (ent_emb (M := M) (g := g) (far := far) h).trans ee
    rw [bn_emp e2, emb_r, emb_p]
    exact ⟨rfl, rfl, rfl⟩
  | go pu wa to =>
    exfalso
    by_cases z : 0 ≤ c.p + wa ∧ c.p + wa < (c.s.length : Int)
    · rw [bn_go ee z] at e; cases e
    · rw [bn_out ee z] at e
      injection e with e1
      exact absurd e1 (by decide +kernel)
/-- out of a half: out of the whole, or at the near end of the other half -/
theorem bn_emb_out {s : List Int} {r wa d : Int} (hM : MOk M R S) (h : BOk R S L c) (hg : 1 ≤ g.length) (e : bn M c = .lv tOut s r wa d) : d = 1 ∧ s.length = L ∧ SOk S s ∧ (0 ≤ r ∧ r < R) ∧ (wa = -1 ∨ wa = 1) ∧
    bn M (emb far g c) = if far = decide (wa = 1) then .lv tOut (emb far g ⟨s, 0, r⟩).s r wa 1 else .nxt (emb (!far) s (st0 g r (!decide (wa = 1)))) := by
  have p0 := h.p0; have p1 := h.p1; have hl := h.len
  have eo := h.ent hM
  cases ee : entAt M c.r (sgn c) with
  | emp =>
    exfalso
    rw [bn_emp ee] at e
    injection e with e1
    exact absurd e1 (by decide +kernel)
  | go pu wa' to =>
    rw [ee] at eo
    obtain ⟨o1, o2, o3⟩ := eo.ok _ _ _ rfl
    by_cases z : 0 ≤ c.p + wa' ∧ c.p + wa' < (c.s.length : Int)
    · rw [bn_go ee z] at e; cases e
    · rw [bn_out ee z] at e
      cases e
      refine ⟨rfl, by rw [List.length_set]; exact hl, h.s.set o1, o3, o2, ?_⟩
      have e2 := (ent_emb (M := M) (g := g) (far := far) h).trans ee
      have hp := @emb_p c g far
      have hll := @emb_len c g far
      by_cases k : far = decide (wa = 1)
      · rw [if_pos k, bn_out e2 ?_]
        · congr 1
          have := emb_set (far := far) (g := g) h pu 0 r
          exact congrArg Bs.s this
        · rw [hp, hll]
          rcases o2 with rfl | rfl
          · rw [decide_eq_false (by omega)] at k
            subst k
            show ¬ (0 ≤ 0 + c.p + -1 ∧ _)
            omega
          · rw [decide_eq_true (by omega)] at k
            subst k
            show ¬ (_ ∧ (g.length : Int) + c.p + 1 < _)
            omega
      · rw [if_neg k]
        rw [bn_go e2 (by
          rw [hp, hll]
          rcases o2 with rfl | rfl
          · rw [decide_eq_false (by omega)] at k
            cases far
            · exact absurd rfl k
            · show 0 ≤ (g.length : Int) + c.p + -1 ∧ (g.length : Int) + c.p + -1 < _
              omega
          · rw [decide_eq_true (by omega)] at k
            cases far
            · show 0 ≤ 0 + c.p + 1 ∧ 0 + c.p + 1 < _
              omega
            · exact absurd rfl k)]
        congr 1
        have ls : (c.s.set c.p.toNat pu).length = c.s.length := List.length_set
        rcases o2 with rfl | rfl
        · rw [decide_eq_false (by omega)] at k ⊢
          cases far
          · exact absurd rfl k
          · have := emb_set (far := true) (g := g) h pu (-1) r
            have e3 : (emb true g c).p + -1 = (if true then (g.length : Int) else 0) + -1 := by
              show (g.length : Int) + c.p + -1 = (g.length : Int) + -1
              omega
            rw [e3, this]
            show (⟨g ++ c.s.set c.p.toNat pu, (g.length : Int) + -1, r⟩ : Bs) = ⟨g ++ c.s.set c.p.toNat pu, (g.length : Int) - 1, r⟩
            rfl
        · rw [decide_eq_true (by omega)] at k ⊢
          cases far
          · have := emb_set (far := false) (g := g) h pu (c.p + 1) r
            have e3 : (emb false g c).p + 1 = (if false then (g.length : Int) else 0) + (c.p + 1) := by
              show c.p + 1 = 0 + (c.p + 1)
              omega
            rw [e3, this]
            show (⟨c.s.set c.p.toNat pu ++ g, c.p + 1, r⟩ : Bs) = ⟨c.s.set c.p.toNat pu ++ g, ((c.s.set c.p.toNat pu).length : Int) + 0, r⟩
            rw [ls]
            congr 1; omega
          · exact absurd rfl k
theorem tj_emb (hM : MOk M R S) : ∀ (n : Nat) (c c' : Bs), BOk R S L c → tj M n c = some c' → tj M n (emb far g c) = some (emb far g c')
  | 0, c, c', _, e => by cases e; rfl
  | n + 1, c, c', h, e => by
    cases eb : bn M c with
    | nxt b' =>
      rw [tj_nxt eb] at e
      rw [tj_nxt (bn_emb_nxt h eb)]
      exact tj_emb hM n b' c' (bn_ok h hM eb) e
    | lv w s r x d => rw [tj_lv eb] at e; cases e
theorem NV.emb (hM : MOk M R S) (h : BOk R S L c) (z : NV M c) : NV M (E.emb far g c) := fun n => by
  cases e : tj M n c with
  | none => exact absurd e (z n)
  | some c' => rw [tj_emb hM n c c' h e]; exact fun z => nomatch z
theorem word_of {s : List Int} {w : TStr} {r x d : Int} (e : bn M c = .lv w s r x d) : w = tEnd ∨ w = tOut := by
  cases ee : entAt M c.r (sgn c) with
  | emp => rw [bn_emp ee] at e; cases e; exact .inl rfl
  | go pu wa to =>
    by_cases z : 0 ≤ c.p + wa ∧ c.p + wa < (c.s.length : Int)
    · rw [bn_go ee z] at e; cases e
    · rw [bn_out ee z] at e; cases e; exact .inr rfl
end
/-- where the halves stand -/
structure Hv where
  far : Bool
  row : Int
  ri : Bool
  h0 : List Int
  h1 : List Int
  deriving DecidableEq
def Hv.it (h : Hv) : List Int := if h.far then h.h1 else h.h0
def Hv.ot (h : Hv) : List Int := if h.far then h.h0 else h.h1
def Hv.bs (h : Hv) : Bs := emb h.far h.ot (st0 h.it h.row h.ri)
def Hv.put (h : Hv) (s : List Int) (far : Bool) (row : Int) (ri : Bool) : Hv := ⟨far, row, ri, if h.far then h.h0 else s, if h.far then s else h.h1⟩
structure HvOk (R S L : Nat) (h : Hv) : Prop where
  l0 : h.h0.length = L
  l1 : h.h1.length = L
  s0 : SOk S h.h0
  s1 : SOk S h.h1
  r0 : 0 ≤ h.row
  r1 : h.row < R
section
variable {M : Mach} {R S L : Nat} {h : Hv} {W : Bs} {k : Nat}
theorem HvOk.it (a : HvOk R S L h) : h.it.length = L ∧ SOk S h.it := by
  obtain ⟨f, row, ri, h0, h1⟩ := h
  cases f
  · exact ⟨a.l0, a.s0⟩
  · exact ⟨a.l1, a.s1⟩
theorem HvOk.ot (a : HvOk R S L h) : h.ot.length = L ∧ SOk S h.ot := by
  obtain ⟨f, row, ri, h0, h1⟩ := h
  cases f
  · exact ⟨a.l1, a.s1⟩
  · exact ⟨a.l0, a.s0⟩
theorem HvOk.st (a : HvOk R S L h) (L1 : 1 ≤ L) : BOk R S L (st0 h.it h.row h.ri) := by
  have := st0_ok (R := R) (row := h.row) (far := h.ri) a.it.2 (by rw [a.it.1]; exact L1) a.r0 a.r1
  rw [a.it.1] at this; exact this
theorem hv_stay (hM : MOk M R S) (L1 : 1 ≤ L) (a : HvOk R S L h) (e : thr M R S h.it h.row h.ri = .stay) (t : tj M k W = some h.bs) : NV M W :=
  NV.of t (NV.emb hM (a.st L1) (thr_stay hM a.it.2 (by rw [a.it.1]; exact L1) a.r0 a.r1 e))
theorem emb_s2 {s : List Int} {p r : Int} : (emb h.far h.ot ⟨s, p, r⟩).s = (h.put s h.far r h.ri).h0 ++ (h.put s h.far r h.ri).h1 := by
  obtain ⟨f, row, ri, h0, h1⟩ := h
  cases f <;> rfl
theorem hv_end {s : List Int} {r x m : Int} (hM : MOk M R S) (L1 : 1 ≤ L) (a : HvOk R S L h) (e : thr M R S h.it h.row h.ri = .fin tEnd s r x m) (t : tj M k W = some h.bs) :
    ∃ (i : Nat) (c : Bs), tj M (k + i) W = some c ∧ bn M c = .lv tEnd ((h.put s h.far r h.ri).h0 ++ (h.put s h.far r h.ri).h1) r ((if h.far then (L : Int) else 0) + x) 0 ∧ m = i := by
  obtain ⟨i, c, d, h1, h2, h3⟩ := thr_fin e
  have okc := tj_ok hM i _ c (a.st L1) h1
  obtain ⟨rfl, rfl, h4⟩ := bn_emb_end (far := h.far) (g := h.ot) okc h2
  refine ⟨i, emb h.far h.ot c, by rw [tj_at t]; exact tj_emb hM i _ c (a.st L1) h1, ?_, by omega⟩
  rw [h4, a.ot.1]
  congr 1
  exact emb_s2 (h := h) (s := c.s) (p := c.p) (r := r) ▸ (by cases h.far <;> rfl)
theorem hv_out {s : List Int} {r wa m : Int} (hM : MOk M R S) (L1 : 1 ≤ L) (a : HvOk R S L h) (e : thr M R S h.it h.row h.ri = .fin tOut s r wa m) (t : tj M k W = some h.bs) :
    (wa = -1 ∨ wa = 1) ∧ ∃ i : Nat, m = i + 1 ∧ (h.far = decide (wa = 1) → ∃ c, tj M (k + i) W = some c ∧ bn M c = .lv tOut ((h.put s h.far r h.ri).h0 ++ (h.put s h.far r h.ri).h1) r wa 1) ∧
      (h.far ≠ decide (wa = 1) → HvOk R S L (h.put s (!h.far) r (!decide (wa = 1))) ∧ tj M (k + (i + 1)) W = some (h.put s (!h.far) r (!decide (wa = 1))).bs) := by
  obtain ⟨i, c, d, h1, h2, h3⟩ := thr_fin e
  have okc := tj_ok hM i _ c (a.st L1) h1
  obtain ⟨rfl, ls, ss, rr, ww, h4⟩ := bn_emb_out (far := h.far) (g := h.ot) hM okc (by rw [a.ot.1]; exact L1) h2
  have t1 := tj_emb (far := h.far) (g := h.ot) hM i _ c (a.st L1) h1
  refine ⟨ww, i, by omega, fun z => ⟨emb h.far h.ot c, by rw [tj_at t]; exact t1, ?_⟩, fun z => ?_⟩
  · rw [h4, if_pos z]
    congr 1
    exact emb_s2
  · rw [if_neg z] at h4
    refine ⟨?_, ?_⟩
    · obtain ⟨f, row, ri, h0, h1⟩ := h
      cases f
      · exact ⟨ls, a.l1, ss, a.s1, rr.1, rr.2⟩
      · exact ⟨a.l0, ls, a.s0, ss, rr.1, rr.2⟩
    · rw [tj_at t]
      show tj M (i + 1) (emb h.far h.ot (st0 h.it h.row h.ri)) = _
      rw [tj_at (n := 1) t1, tj_nxt h4]
      show some _ = some _
      congr 1
      obtain ⟨f, row, ri, h0, h1⟩ := h
      cases f <;> rfl
def Hv.code (R S : Nat) (h : Hv) : Nat := (if h.far then 1 else 0) + 2 * ((if h.ri then 1 else 0) + 2 * (h.row.toNat + R * enc S (h.h0 ++ h.h1)))
theorem HvOk.code_lt (a : HvOk R S L h) : h.code R S < 4 * (R * S ^ (L + L)) := by
  have h1 := enc_lt (a.s0.app a.s1)
  rw [List.length_append, a.l0, a.l1] at h1
  have hr : h.row.toNat < R := by have := a.r0; have := a.r1; omega
  have a1 : R * (enc S (h.h0 ++ h.h1) + 1) ≤ R * S ^ (L + L) := Nat.mul_le_mul_left R h1
  rw [Nat.mul_add, Nat.mul_one] at a1
  unfold Hv.code
  split <;> split <;> omega
theorem HvOk.code_inj {h' : Hv} (a : HvOk R S L h) (b : HvOk R S L h') (e : h.code R S = h'.code R S) : h = h' := by
  have a0 := a.r0; have a1 := a.r1; have b0 := b.r0; have b1 := b.r1
  obtain ⟨e1, e2⟩ := div_eq2 (S := 2) (by split <;> omega) (by split <;> omega) e
  obtain ⟨e3, e4⟩ := div_eq2 (S := 2) (by split <;> omega) (by split <;> omega) e2
  obtain ⟨e5, e6⟩ := div_eq2 (S := R) (by omega) (by omega) e4
  have e7 := enc_inj (a.s0.app a.s1) (b.s0.app b.s1) (by rw [List.length_append, List.length_append, a.l0, a.l1, b.l0, b.l1]) e6
  obtain ⟨e8, e9⟩ := List.append_inj e7 (a.l0.trans b.l0.symm)
  obtain ⟨f, row, ri, h0, h1⟩ := h
  obtain ⟨f', row', ri', h0', h1'⟩ := h'
  simp only at *
  rw [e8, e9, show row = row' by omega]
  congr 1
  · cases f <;> cases f' <;> simp_all
  · cases ri <;> cases ri' <;> simp_all
/-- not more than so many were seen, none twice -/
theorem seen_le {l : List Hv} (ok : ∀ x ∈ l, HvOk R S L x) (nd : l.Pairwise (· ≠ ·)) : l.length ≤ 4 * (R * S ^ (L + L)) := by
  rcases Nat.lt_or_ge (4 * (R * S ^ (L + L))) l.length with z | z
  · exfalso
    have hg : ∀ i, i < l.length → ∃ x, l[i]? = some x ∧ HvOk R S L x := fun i hi => ⟨l[i], List.getElem?_eq_getElem hi, ok _ (List.getElem_mem hi)⟩
    obtain ⟨i, j, ij, jn, q⟩ := pig (4 * (R * S ^ (L + L))) (fun i => ((l[i]?).map (Hv.code R S)).getD 0) fun i li => by
      obtain ⟨x, hx, ox⟩ := hg i (by omega)
      show ((l[i]?).map (Hv.code R S)).getD 0 < _
      rw [hx]
      exact ox.code_lt
    obtain ⟨x, hx, ox⟩ := hg i (by omega)
    obtain ⟨y, hy, oy⟩ := hg j (by omega)
    have q : ((l[i]?).map (Hv.code R S)).getD 0 = ((l[j]?).map (Hv.code R S)).getD 0 := q
    rw [hx, hy] at q
    have e := ox.code_inj oy q
    have li : i < l.length := by omega
    have lj : j < l.length := by omega
    refine List.pairwise_iff_getElem.mp nd i j li lj ij ?_
    rw [List.getElem?_eq_getElem li] at hx
    rw [List.getElem?_eq_getElem lj] at hy
    cases hx; cases hy; exact e
  · exact z
end
/-! ### turned about -/
def revB (b : Bs) : Bs := ⟨b.s.reverse, (b.s.length : Int) - 1 - b.p, b.r⟩
def revX (w : TStr) (L : Nat) (x : Int) : Int := if w = tEnd then (L : Int) - 1 - x else 0 - x
def ThR.rev : ThR → ThR
  | .stay => .stay
  | .fin w s r x n => .fin w s.reverse r (revX w s.length x) n
section
variable {M : Mach} {R S L : Nat} {b c : Bs}
theorem sgn_rev (h : BOk R S L b) : sgn (revB b) = sgn b := by
  have l := h.len; have p0 := h.p0; have p1 := h.p1
  show (b.s.reverse[((b.s.length : Int) - 1 - b.p).toNat]?).getD 0 = _
  rw [List.getElem?_reverse (by omega)]
  show _ = (b.s[b.p.toNat]?).getD 0
  congr 2; omega
theorem set_rev {s : List Int} {p v : Int} (p0 : 0 ≤ p) (p1 : p < s.length) : s.reverse.set ((s.length : Int) - 1 - p).toNat v = (s.set p.toNat v).reverse := by
  refine List.ext_getElem? fun i => ?_
  by_cases hi : i < s.length
  · rw [List.getElem?_reverse (by rw [List.length_set]; exact hi), List.length_set, List.getElem?_set, List.getElem?_set, List.length_reverse, List.getElem?_reverse hi]
    by_cases e : ((s.length : Int) - 1 - p).toNat = i
    · rw [if_pos e, if_pos (by omega), if_pos (by omega), if_pos (by omega)]
    · rw [if_neg e, if_neg (by omega)]
  · rw [List.getElem?_eq_none (by rw [List.length_set, List.length_reverse]; omega), List.getElem?_eq_none (by rw [List.length_reverse, List.length_set]; omega)]
theorem entAt_mir (hM : MOk M R S) (h : BOk R S L b) : entAt (mirM M) b.r (sgn b) = mirE (entAt M b.r (sgn b)) := by
  obtain ⟨row, h1, h2, _⟩ := ent_of hM h.r0 h.r1 h.sgn.2.1 h.sgn.2.2
  show ((((M.map fun row => row.map mirE)[b.r.toNat]?).getD [])[(sgn b).toNat]?).getD .emp = _
  rw [List.getElem?_map, h1]
  show ((row.map mirE)[(sgn b).toNat]?).getD .emp = _
  rw [List.getElem?_map, h2]
  rfl
theorem bn_rev (hM : MOk M R S) (h : BOk R S L b) : bn (mirM M) (revB b) = match bn M b with
    | .nxt c => .nxt (revB c)
    | .lv w s r x d => .lv w s.reverse r (revX w L x) d := by
  have l := h.len; have p0 := h.p0; have p1 := h.p1
  have eo := h.ent hM
  have em : entAt (mirM M) (revB b).r (sgn (revB b)) = mirE (entAt M b.r (sgn b)) := by rw [sgn_rev h]; exact entAt_mir hM h
  cases ee : entAt M b.r (sgn b) with
  | emp =>
    rw [ee] at em
    rw [bn_emp ee, bn_emp em]
    show Bn.lv tEnd b.s.reverse b.r ((b.s.length : Int) - 1 - b.p) 0 = Bn.lv tEnd b.s.reverse b.r (revX tEnd L b.p) 0
    unfold revX
    rw [if_pos rfl, l]
  | go pu wa to =>
    rw [ee] at em eo
    have em : entAt (mirM M) (revB b).r (sgn (revB b)) = .go pu (0 - wa) to := em
    obtain ⟨o1, o2, o3⟩ := eo.ok _ _ _ rfl
    have sr : (revB b).s.set (revB b).p.toNat pu = (b.s.set b.p.toNat pu).reverse := set_rev p0 (by omega)
    have lr : ((revB b).s.length : Int) = b.s.length := by show (b.s.reverse.length : Int) = _; rw [List.length_reverse]
    have pr : (revB b).p = (b.s.length : Int) - 1 - b.p := rfl
    by_cases z : 0 ≤ b.p + wa ∧ b.p + wa < (b.s.length : Int)
    · rw [bn_go ee z, bn_go em (by rw [lr, pr]; omega), sr]
      have e1 : ((b.s.length : Int) - 1 - b.p) + (0 - wa) = (((b.s.set b.p.toNat pu).length : Nat) : Int) - 1 - (b.p + wa) := by rw [List.length_set]; omega
      show Bn.nxt ⟨_, ((b.s.length : Int) - 1 - b.p) + (0 - wa), to⟩ = _
      rw [e1]
      rfl
    · rw [bn_out ee z, bn_out em (by rw [lr, pr]; omega), sr]
      show Bn.lv tOut _ to (0 - wa) 1 = Bn.lv tOut _ to (revX tOut L wa) 1
      unfold revX
      rw [if_neg (by decide +kernel)]
theorem bgo_rev (hM : MOk M R S) : ∀ (n : Nat) (b : Bs) (k : Int), BOk R S L b → bgo (mirM M) n (revB b) k = (bgo M n b k).rev
  | 0, b, k, h => rfl
  | n + 1, b, k, h => by
    have z := bn_rev hM h
    cases eb : bn M b with
    | nxt c =>
      rw [eb] at z
      rw [bgo_nxt eb, bgo_nxt z]
      exact bgo_rev hM n c (k + 1) (bn_ok h hM eb)
    | lv w s r x d =>
      rw [eb] at z
      rw [bgo_lv eb, bgo_lv z]
      have ls : s.length = L := by
        cases ee : entAt M b.r (sgn b) with
        | emp => rw [bn_emp ee] at eb; cases eb; exact h.len
        | go pu wa to =>
          by_cases z : 0 ≤ b.p + wa ∧ b.p + wa < (b.s.length : Int)
          · rw [bn_go ee z] at eb; cases eb
          · rw [bn_out ee z] at eb; cases eb; rw [List.length_set]; exact h.len
      show ThR.fin w s.reverse r (revX w L x) (k + d) = ThR.fin w s.reverse r (revX w s.length x) (k + d)
      rw [ls]
theorem thr_rev {s : List Int} {row : Int} {far : Bool} (hM : MOk M R S) (h : SOk S s) (l : 1 ≤ s.length) (r0 : 0 ≤ row) (r1 : row < R) : thr (mirM M) R S s.reverse row (!far) = (thr M R S s row far).rev := by
  have e : st0 s.reverse row (!far) = revB (st0 s row far) := by
    unfold st0 revB
    rw [List.length_reverse]
    cases far
    · show (⟨_, (s.length : Int) - 1, row⟩ : Bs) = ⟨_, (s.length : Int) - 1 - 0, row⟩; congr 1; omega
    · show (⟨_, 0, row⟩ : Bs) = ⟨_, (s.length : Int) - 1 - ((s.length : Int) - 1), row⟩; congr 1; omega
  unfold thr
  rw [e, List.length_reverse]
  exact bgo_rev hM _ _ 0 (st0_ok h l r0 r1)
end
/-! ### a tuple the other way round -/
theorem revAdj (n : Nat) : Builtin.Slice.sliceAdjust none none (-1) (n : Int) = ((n : Int) - 1, -1) := rfl
theorem revPlaces (n : Nat) : Builtin.Slice.slicePlaces ((n : Int) - 1) (-1) (-1) = n := by
  unfold Builtin.Slice.slicePlaces
  rw [if_neg (by decide)]
  by_cases h : (n : Int) - 1 > -1
  · rw [if_pos h, show (- -1 : Int) = 1 from rfl, Int.ediv_one]; omega
  · rw [if_neg h]; omega
theorem fm_all {α β : Type} {f : α → Option β} {g : α → β} : ∀ {l : List α}, (∀ x ∈ l, f x = some (g x)) → l.filterMap f = l.map g
  | [], _ => rfl
  | x :: l, h => by
    rw [List.filterMap_cons, h x (List.mem_cons_self ..)]
    show g x :: l.filterMap f = _
    rw [fm_all fun y hy => h y (List.mem_cons_of_mem _ hy)]; rfl
theorem revPick (zs : List Value) : ((List.range zs.length).filterMap fun (k : Nat) => zs.toArray[((zs.length : Int) - 1 + (k : Int) * -1).toNat]?) = zs.reverse := by
  refine List.ext_getElem? fun i => ?_
  have e : ∀ k ∈ List.range zs.length, zs.toArray[((zs.length : Int) - 1 + (k : Int) * -1).toNat]? = some ((zs.reverse[k]?).getD .none) := fun k hk => by
    have hk := List.mem_range.mp hk
    rw [List.getElem?_toArray, List.getElem?_reverse hk, show ((zs.length : Int) - 1 + (k : Int) * -1).toNat = zs.length - 1 - k by omega, List.getElem?_eq_getElem (by omega)]
    rfl
  rw [fm_all e, List.getElem?_map]
  by_cases hi : i < zs.length
  · rw [List.getElem?_range hi, List.getElem?_reverse hi, List.getElem?_eq_getElem (by omega)]
    show some ((zs.reverse[i]?).getD .none) = _
    rw [List.getElem?_reverse hi, List.getElem?_eq_getElem (by omega)]
    rfl
  · rw [List.getElem?_eq_none (by rw [List.length_range]; omega), List.getElem?_eq_none (by rw [List.length_reverse]; omega)]
    rfl
section
open PySem.Spec PyProof.Rows HT
variable {prog : Program} {w : World} {A : Around} {E : Value → Shared → Prop} {s : Shared}
theorem revApplied {sl : Addr} {u : Tok} {n : Nat} {Q : Int × Int × Nat → Shared → Prop} (hs : s.heap.IsSliceOf sl .none .none (.int (-1) u)) (h : Q ((n : Int) - 1, -1, n) s) :
    wpAny (model prog w) A (Builtin.Slice.sliceApplied (.ref sl) (pure (n : Int))) Q E s := by
  obtain ⟨ob, k1, k2, k3⟩ := id hs
  unfold Builtin.Slice.sliceApplied Builtin.Slice.sliceFields
  refine wpAny_bind (wpAny_bind (wpAny_field k1 k3 (x := .none) rfl (wpAny_bind (wpAny_field k1 k3 (x := .none) rfl (wpAny_bind (wpAny_field k1 k3 (x := .int (-1) u) rfl (wpAny_pure ?_)))))))
  refine wpAny_bind (slicePart_int ?_)
  show wpAny _ _ (if ((-1 : Int) == 0) = true then _ else _) _ _ s
  rw [if_neg (by decide)]
  refine wpAny_bind (slicePart_none (wpAny_bind (slicePart_none (wpAny_bind (wpAny_pure ?_)))))
  show wpAny _ _ (match Builtin.Slice.sliceAdjust none none (-1) (n : Int) with | (lo, hi) => pure (lo, (-1 : Int), Builtin.Slice.slicePlaces lo hi (-1))) _ _ s
  rw [revAdj]
  show wpAny _ _ (pure ((n : Int) - 1, (-1 : Int), Builtin.Slice.slicePlaces ((n : Int) - 1) (-1) (-1))) _ _ s
  rw [revPlaces]
  exact wpAny_pure h
theorem revItem {t sl : Addr} {zs : List Value} {u : Tok} {Q : Value → Shared → Prop} (ht : IsTup s.heap t zs.toArray) (hs : s.heap.IsSliceOf sl .none .none (.int (-1) u))
    (h : Q (.ref s.heap.objs.size) { s with heap := s.heap.push { cls := .type "tuple", data := .seq zs.reverse.toArray } }) (hz : zs.length ≤ sizeLine) : wpAny (model prog w) A (getItem (.ref t) (.ref sl)) Q E s := by
  have fits : sizeOk (.seq zs.reverse.toArray) := by
    show zs.reverse.toArray.size ≤ sizeLine
    rw [List.size_toArray, List.length_reverse]; exact hz
  obtain ⟨ob, k1, k2, k3⟩ := id hs
  unfold getItem
  try with_reducible refine wpAny_holding ?_
  first | refine wpAny_bind (wpAny_pure ?_) | skip
  refine wpAny_bind (wpAny_sequenceKey ht.typeIs (by decide) (wpAny_bind (wpAny_callSpecial?_slot (name := Str.ofString "__getitem__") ht.typeIs PyProof.Rows.slot_tuple_getitem
    (wpAny_call_entry PyProof.Rows.slot_tuple_getitem ht.typeIs entry_tuple_getitem ?_ (args_tuple_getitem _ _)))))
  show wpAny _ _ (Builtin.Tuple.tupleItemsOf (.ref t) >>= _) _ _ s
  refine wpAny_bind (tupleItemsOf_ ht (wpAny_bind (wpAny_typeOf (v := .ref sl) ⟨ob, k1, k2⟩ ?_)))
  rw [if_pos (by decide)]
  refine wpAny_bind (revApplied (n := zs.toArray.size) hs ?_)
  have off : ¬ (((zs.toArray.size : Int) - 1 == 0 && (-1 : Int) == 1 && zs.toArray.size == zs.toArray.size) = true) := by
    rw [show ((-1 : Int) == 1) = false from rfl, Bool.and_false, Bool.false_and]
    exact Bool.false_ne_true
  show wpAny _ _ (if ((zs.toArray.size : Int) - 1 == 0 && (-1 : Int) == 1 && zs.toArray.size == zs.toArray.size) = true then _ else _) _ _ s
  rw [if_neg off]
  rw [List.size_toArray, revPick]
  first
    | exact wpAny_bind (m := Builtin.Tuple.tupleExact _) (wpAny_newObj_type (wpAny_pure ⟨_, rfl, wpAny_pure h⟩) fits)
    | exact wpAny_bind (m := Builtin.Tuple.tupleExact _) (wpAny_newObj_type (wpAny_bind (wpAny_pure (wpAny_pure ⟨_, rfl, wpAny_pure h⟩))) fits)
    | exact wpAny_bind (wpAny_bind (m := Builtin.Tuple.tupleExact _) (wpAny_newObj_type (wpAny_pure (wpAny_pure ⟨_, rfl, wpAny_pure h⟩)) fits))
    | exact wpAny_bind (wpAny_bind (m := Builtin.Tuple.tupleExact _) (wpAny_newObj_type (wpAny_pure ⟨_, rfl, wpAny_pure h⟩) fits))
end
section
open PySem.Spec PyProof.Rows
variable {X : Cx}
def tRevT (K : PySem.W.Frag) (te : TE) : TE := fun σ H Q => te σ H fun x G => ∃ a xs, x = .ref a ∧ SqT K G a xs ∧ ∀ p, G p = none → Q (.ref p) (upd G p (.tup xs.reverse))
theorem pe_revT {e : PySem.Expr} {te : TE} {k : Nat} {p1 p2 p3 pos : Pos} (he : PE X e te) : PE X (.Subscript e (.Slice none none (some (.UnaryOp .USub (.Constant (.int 1) k p1) p2)) p3) pos) (tRevT X.K te) := by
  refine ⟨fun pins s σ H Q I h => Subscript_ (thn (he.run pins s σ H _ I h) fun v s1 ⟨x, G, J, r, q⟩ => ?_)⟩
  obtain ⟨a, xs, ex, hx, q⟩ := q
  subst ex
  cases r
  have step : PO X (some (.UnaryOp .USub (.Constant (.int 1) k p1) p2)) (tPart (tUn (rU fun i => .int (-i)) (tC (.int 1)))) := po_some (pe_un un_neg pe_int)
  refine wpAny_Slice (thn (po_none.run pins s1 σ G (fun o G' => o = none ∧ G' = G) J ⟨rfl, rfl⟩) fun u1 s2 ⟨o1, G1, J1, i1, e1, f1⟩ => ?_)
  subst e1 f1
  refine thn (po_none.run pins s2 σ G1 (fun o G' => o = none ∧ G' = G1) J1 ⟨rfl, rfl⟩) fun u2 s3 ⟨o2, G2, J2, i2, e2, f2⟩ => ?_
  subst e2 f2
  refine thn (step.run pins s3 σ G2 (fun o G' => o = some (-1) ∧ G' = G2) J2 ⟨1, rfl, -1, rfl, rfl, rfl⟩) fun u3 s4 ⟨o3, G3, J3, i3, e3, f3⟩ => ?_
  subst e3 f3
  cases i1
  cases i2
  cases i3 with
  | int _ tk =>
    have J5 : Inv X pins σ G3 { s4 with heap := s4.heap.push { cls := .type "slice", data := .fields #[.none, .none, .int (-1) tk] } } := J3.kept (t' := s4.toks) fun b ob z => Heap.get?_push_of_some _ z
    obtain ⟨its, r, ht, hz⟩ := J5.tuple hx
    have hlen := r.length
    show wpAny (model X.prog X.w) X.A (subscriptTail e (.Slice none none (some (.UnaryOp .USub (.Constant (.int 1) k p1) p2)) p3) (.ref a) (.ref s4.heap.objs.size)) (EP X pins σ Q) X.xe { s4 with heap := s4.heap.push { cls := .type "slice", data := .fields #[.none, .none, .int (-1) tk] } }
    refine tail_any (ops := [.ref a, .ref s4.heap.objs.size]) ht.typeIs (PyProof.Rows.slot_tuple_getitem.lookup) ?_ (by with_unfolding_all rfl)
    refine revItem ht (Heap.IsSliceOf.new _ _ _ _) ?_ (by omega)
    refine ⟨.ref _, _, J5.laid (t' := s4.toks) (o := .tup xs.reverse) (fun b ob z => Heap.get?_push_of_some _ z) (Nat.le_refl _) ?_, rfl, q _ (J5.hok.fresh (Nat.le_refl _))⟩
    exact ⟨by rw [List.length_reverse]; exact hz, _, r.reverse, IsTup.new _ _⟩
end
/-! ### what is told of a block, as a datum -/
theorem all_ints {H : Hp} : ∀ s : List Int, IsAll H (s.map V.int) s := fun s => ⟨by rw [List.length_map], fun i x y h k => by
  rw [List.getElem?_map, k] at h
  cases h; rfl⟩
def ThR.py : ThR → PyData
  | .stay => .tuple [.str tStay.x]
  | .fin w s r x n => .tuple [.str w.x, .tuple (s.map .int), .int r, .int x, .int n]
def ThR.rep (H : Hp) (v : V) : ThR → Prop
  | .stay => ∃ p, v = .ref p ∧ H p = some (.tup [.str tStay.x])
  | .fin w s r x n => ∃ p q, v = .ref p ∧ H p = some (.tup [.str w.x, .ref q, .int r, .int x, .int n]) ∧ H q = some (.tup (s.map V.int))
theorem can_ints (s : List Int) : PyData.canLayAll0 (s.map .int) = true := can_all (α := Int) s
theorem depth_ints (s : List Int) : PyData.depthAll (s.map .int) ≤ 0 := depth_all (α := Int) s
theorem eqv_ints (a b : List Int) : PyData.eqvAll (a.map .int) (b.map .int) = true ↔ a = b := eqv_all (α := Int) a b
instance : Dat ThR where
  rep := ThR.rep
  mono := fun {H H' v d} s h => by
    cases d with
    | stay => obtain ⟨p, e, h⟩ := h; exact ⟨p, e, s _ _ h⟩
    | fin w l r x n => obtain ⟨p, q, e, h, k⟩ := h; exact ⟨p, q, e, s _ _ h, s _ _ k⟩
  py := ThR.py
  dp := fun {K H v d} h => by
    cases d with
    | stay => obtain ⟨p, rfl, h⟩ := h; exact .tup (SqT.of h) (.cons (.str _) .nil)
    | fin w l r x n =>
      obtain ⟨p, q, rfl, h, k⟩ := h
      exact .tup (SqT.of h) (.cons (.str _) (.cons (.tup (SqT.of k) (dp_all (α := Int) (all_ints l))) (.cons (.int _) (.cons (.int _) (.cons (.int _) .nil)))))
  can := fun d => by
    cases d with
    | stay => decide +kernel
    | fin w l r x n =>
      show (PyData.canLay0 (.str w.x) && (PyData.canLayAll0 (l.map .int) && (true && (true && (true && true))))) = true
      rw [show PyData.canLay0 (.str w.x) = true from w.ok, can_ints]
      rfl
  dep := 2
  depth := fun d => by
    cases d with
    | stay => decide +kernel
    | fin w l r x n =>
      have h := depth_ints l
      show max 0 (max (PyData.depthAll (l.map .int) + 1) (max 0 (max 0 (max 0 0)))) + 1 ≤ 2
      omega
  eqv := fun a b => by
    cases a with
    | stay =>
      cases b with
      | stay => simp [ThR.py, PyData.eqv, PyData.eqvAll]
      | fin w l r x n => simp [ThR.py, PyData.eqv, PyData.eqvAll]
    | fin w l r x n =>
      cases b with
      | stay => simp [ThR.py, PyData.eqv, PyData.eqvAll]
      | fin w' l' r' x' n' =>
        obtain ⟨wx, wo⟩ := w
        obtain ⟨wx', wo'⟩ := w'
        simp only [ThR.py, PyData.eqv, PyData.eqvAll, Bool.and_eq_true, eqv_ints, decide_eq_true_eq, beq_iff_eq, ThR.fin.injEq, TStr.mk.injEq, and_true]
theorem units65 {k : Nat} {A : Around} (r : Room k A) : A.units + 65 < cLine := by have := r.un; omega
/-! ### most_setups, through -/
theorem ixN_of {n : Nat} {i : Int} (h0 : 0 ≤ i) (h1 : i < n) : ixN n i = some i.toNat := by
  unfold ixN
  rw [if_pos h0, if_pos h1]
theorem int_eq2 {a b : Int} : decide (V.int a = V.int b) = decide (a = b) := by
  by_cases h : a = b
  · subst h; rw [decide_eq_true rfl, decide_eq_true rfl]
  · rw [decide_eq_false h, decide_eq_false fun e => h (V.int.inj e)]
theorem most_le {R S L : Nat} (hR : R ≤ 4) (hS : S ≤ 4) (hL : L ≤ 8) {i : Nat} (hi : i ≤ L) : R * L * S ^ i ≤ 2097152 := by
  have a : S ^ i ≤ 4 ^ 8 := Nat.le_trans (Nat.pow_le_pow_left hS i) (Nat.pow_le_pow_right (by decide) (by omega))
  have b : R * L ≤ 4 * 8 := Nat.mul_le_mul hR hL
  exact Nat.le_trans (Nat.mul_le_mul b a) (by decide)
def sp_most_setups : Sp := fun vs H Q _ => ∃ (F : Hp) (m : V) (b : Addr) (M : Mach) (R S : Nat) (s : List Int), vs = [m, .ref b] ∧ Same F H ∧ Is F m M ∧ MOk M R S ∧ F b = some (.tup (s.map V.int)) ∧ s.length ≤ 8 ∧ Q (.int (mostB R S s.length : Nat)) H
theorem ok_most_setups (t : Tx K mg) : FnOk P w K mg base CX0 1 t.a_most_setups t.fd_most_setups ["machine", "block"] sp_most_setups := by
  refine t.F_most_setups.ok sc_most_setups (fun vs H Q E h => ?_) (fun cdv A outer s H vs Q E hr h => ?_)
  · obtain ⟨F, m, b, M, R, S, ss, rfl, _⟩ := h
    rfl
  · obtain ⟨F, m, b, M, R, S, ss, rfl, sF, hm, hM, hb, l8, q⟩ := h
    refine ⟨_, (pss_cons (ps_set (i := 2) sc_most_setups.nd rfl (by first | exact Or.inl rfl | exact Or.inr rfl) (pe_op op_mul (pe_callB (id := "len") call_lenQ (by rfl) t.n_len (by decide +kernel) (pa_cons (pv 0) pa_nil)) (pe_callB (id := "len") call_lenQ (by rfl) t.n_len (by decide +kernel) (pa_cons (pv 1) pa_nil))))
      (pss_cons (ps_for PassesOwn.never rfl (pi_tup (pv 1)) (pg_name (i := 3) sc_most_setups.nd rfl (by first | exact Or.inl rfl | exact Or.inr rfl)) (pss_one (ps_set (i := 2) sc_most_setups.nd rfl (by first | exact Or.inl rfl | exact Or.inr rfl) (pe_op op_mul (pv 2) (pe_callB (id := "len") call_lenQ (by rfl) t.n_len (by decide +kernel) (pa_cons (pe_ix ix_list (pv 0) pe_int (fun _ _ => rfl)) pa_nil))))))
      (pss_one (ps_ret (pv 2))))), ?_⟩
    obtain ⟨am, rs, rfl, ha, hrs⟩ := hm
    have lrs : rs.length = R := hrs.1.trans hM.len
    have r1 := hM.r1; have r4 := hM.r4; have s2 := hM.s2; have s4 := hM.s4
    have hx0 : rs[0]? = some rs[0] := List.getElem?_eq_getElem (by omega)
    obtain ⟨row0, hM0, a0, es0, e0, ha0, hes0⟩ := hrs.get' hx0
    have ls0 : es0.length = S := hes0.1.trans (hM.row _ (List.mem_of_getElem? hM0))
    have lb : (ss.map V.int).length = ss.length := List.length_map ..
    refine ⟨_, rfl, am, rs, rfl, .inl (SqL.of (sF _ _ ha)), _, rfl, b, _, rfl, .inr (SqT.of (sF _ _ hb)), _, _, rfl, rfl, .inl ⟨by omega, by omega⟩, ?_⟩
    refine ⟨_, rfl, b, rfl, ⟨_, SqT.of (sF _ _ hb)⟩, for_tup (K := K) (a := b) (xs := ss.map V.int) (fun i σ G => ∃ v3 : Option V, σ = [some (.ref am), some (.ref b), some (.int (R * ss.length * S ^ i : Nat)), v3] ∧ G = H)
      ⟨none, by rw [lrs, lb, Nat.pow_zero, Nat.mul_one, Int.natCast_mul]; rfl, rfl⟩ (fun i σ G _ ⟨_, _, e⟩ => by rw [e]; exact SqT.of (sF _ _ hb)) ?_ ?_⟩
    · rintro i x σ G hi ⟨v3, rfl, rfl⟩
      have il : i < ss.length := by have := (List.getElem?_eq_some_iff.mp hi).1; omega
      have bd := most_le r4 s4 l8 (Nat.le_of_lt il)
      refine ⟨_, rfl, _, rfl, am, rs, _, _, rfl, rfl, SqL.of (sF _ _ ha), atI_nat (j := 0) hx0, ?_⟩
      rw [e0]
      refine ⟨a0, es0, rfl, .inl (SqL.of (sF _ _ ha0)), _, _, rfl, rfl, .inl ⟨by omega, by omega⟩, some x, ?_, rfl⟩
      rw [ls0, Nat.pow_succ, ← Nat.mul_assoc]
      rfl
    · rintro σ G ⟨v3, rfl, rfl⟩
      rw [lb]
      exact ⟨_, rfl, q⟩
def sp_through : Sp := fun vs H Q _ => ∃ (F : Hp) (m : V) (b : Addr) (M : Mach) (R S : Nat) (s : List Int) (row side : Int), vs = [m, .ref b, .int row, .int side] ∧ Same F H ∧ Is F m M ∧ MOk M R S ∧ F b = some (.tup (s.map V.int)) ∧ SOk S s ∧ 1 ≤ s.length ∧ s.length ≤ 8 ∧ 0 ≤ row ∧ row < R ∧
  ∀ (F' H' : Hp) (v : V), Gr mu0 F H F' H' → Is F' v (thr M R S s row (decide (side = 1))) → Q v H'
theorem ok_through (t : Tx K mg) : FnOk P w K mg base CX0 4 t.a_through t.fd_through ["machine", "block", "row", "side"] sp_through := by
  refine t.F_through.ok sc_through (fun vs H Q E h => ?_) (fun cdv A outer s H vs Q E hr h => ?_)
  · obtain ⟨F, m, b, M, R, S, ss, row, side, rfl, _⟩ := h
    rfl
  · obtain ⟨F, m, b, M, R, S, ss, row, side, rfl, sF, hm, hM, hb, hs, l1, l8, r0, r1, q⟩ := h
    refine ⟨_, (pss_cons (ps_expr (pe_call (ok_must_machine t) (hr.mono (by decide)) (by rfl) t.m_must_machine t.F_must_machine.kp t.b_must_machine .nil pass0 (pa_cons (pv 0) pa_nil)))
      (pss_cons (ps_set (i := 4) sc_through.nd rfl (by first | exact Or.inl rfl | exact Or.inr rfl) (pe_callTy (T := "list") call_listQ (by rfl) t.n_list (by decide +kernel) (pa_cons (pv 1) pa_nil)))
      (pss_cons (ps_set (i := 5) sc_through.nd rfl (by first | exact Or.inl rfl | exact Or.inr rfl) pe_int)
      (pss_cons (ps_if (pt_cmpR op_eq (pv 3) pe_int (nomark _)) (pss_one (ps_set (i := 5) sc_through.nd rfl (by first | exact Or.inl rfl | exact Or.inr rfl) (pe_op op_sub (pe_callB (id := "len") call_lenQ (by rfl) t.n_len (by decide +kernel) (pa_cons (pv 4) pa_nil)) pe_int))) pss_nil)
      (pss_cons (ps_for PassesOwn.never rfl (pi_range1 (by rfl) t.n_range (pa_cons (pe_op op_add (pe_call (ok_most_setups t) (hr.mono (by decide)) (by rfl) t.m_most_setups t.F_most_setups.kp t.b_most_setups .nil pass0 (pa_cons (pv 0) (pa_cons (pv 1) pa_nil))) pe_int) pa_nil)) (pg_name (i := 6) sc_through.nd rfl (by first | exact Or.inl rfl | exact Or.inr rfl)) (pss_cons (ps_set (i := 7) sc_through.nd rfl (by first | exact Or.inl rfl | exact Or.inr rfl) (pe_ix ix_list (pe_ix ix_list (pv 0) (pv 2) (fun _ _ => rfl)) (pe_ix ix_list (pv 4) (pv 5) (fun _ _ => rfl)) (fun _ _ => rfl)))
      (pss_cons (ps_if (pt_cmpR (op_eqD hr.units) (pv 7) (pe_tup pa_nil) (nomark _)) (pss_one (ps_ret (pe_tup (pa_cons pe_str (pa_cons (pe_callTy (T := "tuple") call_tupQ (by rfl) t.n_tuple (by decide +kernel) (pa_cons (pv 4) pa_nil)) (pa_cons (pv 2) (pa_cons (pv 5) (pa_cons (pv 6) pa_nil)))))))) pss_nil)
      (pss_cons (ps_asg (pe_ix ix_tup (pv 7) pe_int (fun _ _ => rfl)) (pg_sub (pv 4) (pv 5) set_list))
      (pss_cons (ps_aug (i := 5) sc_through.nd rfl (by first | exact Or.inl rfl | exact Or.inr rfl) (pe_ix ix_tup (pv 7) pe_int (fun _ _ => rfl)) ip_add)
      (pss_cons (ps_set (i := 2) sc_through.nd rfl (by first | exact Or.inl rfl | exact Or.inr rfl) (pe_ix ix_tup (pv 7) pe_int (fun _ _ => rfl)))
      (pss_one (ps_if (pt_not (pt_chain op_le op_lt pe_int (pv 5) (pe_callB (id := "len") call_lenQ (by rfl) t.n_len (by decide +kernel) (pa_cons (pv 4) pa_nil)))) (pss_one (ps_ret (pe_tup (pa_cons pe_str (pa_cons (pe_callTy (T := "tuple") call_tupQ (by rfl) t.n_tuple (by decide +kernel) (pa_cons (pv 4) pa_nil)) (pa_cons (pv 2) (pa_cons (pe_ix ix_tup (pv 7) pe_int (fun _ _ => rfl)) (pa_cons (pe_op op_add (pv 6) pe_int) pa_nil)))))))) pss_nil))))))))
      (pss_one (ps_ret (pe_tup (pa_cons pe_str pa_nil))))))))), ?_⟩
    refine ⟨_, rfl, F, m, M, R, S, rfl, sF, hm, hM, fun H1 g1 => ?_⟩
    refine ⟨_, rfl, b, _, rfl, .inr (SqT.of (g1.fh _ _ hb)), fun l nl => ?_⟩
    have g2 := g1.own (o := .lst (ss.map V.int)) nl
    have w2 : Ow H F (upd H1 l (.lst (ss.map V.int))) l (.lst (ss.map V.int)) := Ow.mk1 g1 nl
    generalize upd H1 l (.lst (ss.map V.int)) = H2 at g2 w2 ⊢
    refine ⟨_, rfl, rfl, _, rfl, ?_⟩
    rw [int_eq2]
    have lb : (ss.map V.int).length = ss.length := List.length_map ..
    have mb := most_le (S := S) hM.r4 hM.s4 l8 (Nat.le_refl _)
    refine ite2 (fun c => ?A) (fun c => ?B)
    case' A =>
      refine ⟨_, rfl, l, _, rfl, .inl (SqL.of w2.h), _, _, rfl, rfl, ?_⟩
      have ep : (st0 ss row (decide (side = 1))).p = ((ss.map V.int).length : Int) - 1 := by rw [lb]; unfold st0; rw [if_pos c]
    case' B =>
      have ep : (st0 ss row (decide (side = 1))).p = 0 := by unfold st0; rw [if_neg c]
    all_goals
      refine ⟨_, rfl, _, rfl, F, m, b, M, R, S, ss, rfl, g2.fh, hm, hM, hb, l8, _, _, rfl, rfl, ((mostB R S ss.length : Nat) : Int) + 1, rfl, by omega, by unfold mostB; omega, ?_⟩
      refine for_range (lo := 0) (n := (((mostB R S ss.length : Nat) : Int) + 1).toNat) (fun i σ G => ∃ (c : Bs) (v6 v7 : Option V), σ = [some m, some (.ref b), some (.int c.r), some (.int side), some (.ref l), some (.int c.p), v6, v7] ∧ Gr mu0 F H F G ∧ Ow H F G l (.lst (c.s.map V.int)) ∧ BOk R S ss.length c ∧ thr M R S ss row (decide (side = 1)) = bgo M (mostB R S ss.length + 1 - i) c i)
        ⟨st0 ss row (decide (side = 1)), none, none, by rw [ep]; rfl, g2, w2, st0_ok hs l1 r0 r1, rfl⟩ ?_ ?_
      · rintro i σ G hi ⟨c, v6, v7, rfl, g, w, ok, et⟩
        have en : mostB R S ss.length + 1 - i = (mostB R S ss.length - i) + 1 := by omega
        rw [en] at et
        have lc := ok.len
        have c0 := ok.p0
        have c1 := ok.p1
        obtain ⟨rw', hrw, he, eo⟩ := ent_of hM ok.r0 ok.r1 ok.sgn.2.1 ok.sgn.2.2
        obtain ⟨am, rs, rfl, ha, hrs⟩ := id hm
        obtain ⟨y, hy, bm, es', rfl, hbm, hes⟩ := hrs.get hrw
        obtain ⟨z, hz, hze⟩ := hes.get he
        have hsg : (c.s.map V.int)[c.p.toNat]? = some (.int (sgn c)) := by rw [List.getElem?_map, ok.sgn.1]; rfl
        refine ⟨_, rfl, _, rfl, am, rs, _, _, rfl, rfl, SqL.of (g.fh _ _ ha), at_of (Int.toNat_of_nonneg ok.r0).symm hy, ?_⟩
        refine ⟨_, rfl, _, rfl, l, _, _, _, rfl, rfl, SqL.of w.h, at_of (Int.toNat_of_nonneg c0).symm hsg, bm, es', _, _, rfl, rfl, SqL.of (g.fh _ _ hbm), at_of (Int.toNat_of_nonneg ok.sgn.2.1).symm hz, ?_⟩
        refine ⟨_, rfl, nil_le, fun e1 ne1 => ?_⟩
        have gg := g.own (o := .tup []) ne1
        have ww := w.own (u := .tup []) ne1
        refine eq_dat (a := entAt M c.r (sgn c)) (b := Ent.emp) (hze.up gg.fh) ⟨e1, rfl, upd_same⟩ ⟨_, rfl, ?_⟩
        generalize upd G e1 (.tup []) = G1 at gg ww ⊢
        -- what is told when it leaves
        have fin : ∀ (s' : List Int) (tg : TStr) (r x n : Int) (G2 : Hp), Gr mu0 F H F G2 → thr M R S ss row (decide (side = 1)) = .fin tg s' r x n → ∀ p, G2 p = none → ∀ u, upd G2 p (.tup (s'.map V.int)) u = none → Q (.ref u) (upd (upd G2 p (.tup (s'.map V.int))) u (.tup [.str tg.x, .ref p, .int r, .int x, .int n])) := by
          intro s' tg r x n G2 k e p np u nu
          have k1 := k.new (o := .tup (s'.map V.int)) np
          have n2 : (upd F p (.tup (s'.map V.int))) u = none := k1.fh.free nu
          refine q _ _ (.ref u) (k1.new (o := .tup [.str tg.x, .ref p, .int r, .int x, .int n]) nu) ?_
          rw [e]
          exact ⟨u, p, rfl, upd_same, ln n2 upd_same⟩
        cases ee : entAt M c.r (sgn c) with
        | emp =>
          refine ifT (decide_eq_true rfl) ⟨_, rfl, l, _, rfl, .inl ⟨SqL.of ww.h, fun p np => ⟨_, rfl, _, rfl, _, rfl, five_le, fun u nu => ?_⟩⟩⟩
          refine fin c.s tEnd c.r c.p _ G1 gg ?_ p np u nu
          rw [et, bgo_lv (bn_emp ee)]
          congr 1; omega
        | go pu wa to =>
          rw [ee] at hze eo
          obtain ⟨o1, o2, o3⟩ := eo.ok _ _ _ rfl
          obtain ⟨ae, rfl, hae⟩ := hze
          have hae1 := gg.fh _ _ hae
          refine ifF (decide_eq_false (by intro z; cases z)) ?_
          refine ⟨_, rfl, ae, _, _, _, rfl, rfl, SqT.of hae1, atI_nat (j := 0) rfl, _, rfl, _, rfl, l, _, _, c.p.toNat, rfl, rfl, ww.h, ixN_of c0 (by rw [List.length_map]; omega), ?_⟩
          have g3 := gg.set (o := .lst ((c.s.map V.int).set c.p.toNat (.int pu))) ww.f (.inl ww.n)
          have w3 := ww.set (u := .lst ((c.s.map V.int).set c.p.toNat (.int pu)))
          rw [← List.map_set] at g3 w3 ⊢
          generalize upd G1 l (.lst ((c.s.set c.p.toNat pu).map V.int)) = G3 at g3 w3 ⊢
          have hae3 := g3.fh _ _ hae
          refine ⟨_, rfl, _, rfl, ae, _, _, _, rfl, rfl, SqT.of hae3, atI_nat (j := 1) rfl, _, _, rfl, rfl, ?_⟩
          refine ⟨_, rfl, ae, _, _, _, rfl, rfl, SqT.of hae3, atI_nat (j := 2) rfl, ?_⟩
          have ll : ((c.s.set c.p.toNat pu).map V.int).length = c.s.length := by rw [List.length_map, List.length_set]
          refine ⟨_, rfl, _, _, rfl, rfl, _, rfl, ?_⟩
          by_cases z : 0 ≤ c.p + wa ∧ c.p + wa < (c.s.length : Int)
          · refine ifT (decide_eq_true z.1) ⟨_, rfl, l, _, rfl, .inl (SqL.of w3.h), _, _, rfl, rfl, _, rfl, ?_⟩
            refine ifF (by rw [ll, decide_eq_true z.2]; rfl) ?_
            refine ⟨⟨c.s.set c.p.toNat pu, c.p + wa, to⟩, _, _, rfl, g3, w3, bn_ok ok hM (bn_go ee z), ?_⟩
            rw [et, bgo_nxt (bn_go ee z), show mostB R S ss.length + 1 - (i + 1) = mostB R S ss.length - i by omega]
            congr 1
          · by_cases k : 0 ≤ c.p + wa
            · refine ifT (decide_eq_true k) ⟨_, rfl, l, _, rfl, .inl (SqL.of w3.h), _, _, rfl, rfl, _, rfl, ?_⟩
              refine ifT (by rw [ll, decide_eq_false (fun y => z ⟨k, y⟩)]; rfl) ?_
              refine ⟨_, rfl, l, _, rfl, .inl ⟨SqL.of w3.h, fun p np => ⟨_, rfl, _, rfl, ae, _, _, _, rfl, rfl, SqT.of (ln np hae3), atI_nat (j := 1) rfl, _, rfl, _, _, rfl, rfl, five_le, fun u nu => ?_⟩⟩⟩
              refine fin (c.s.set c.p.toNat pu) tOut to wa _ G3 g3 ?_ p np u nu
              rw [et, bgo_lv (bn_out ee z)]
              congr 1; omega
            · refine ifF (decide_eq_false k) ⟨_, rfl, ?_⟩
              refine ifT rfl ?_
              refine ⟨_, rfl, l, _, rfl, .inl ⟨SqL.of w3.h, fun p np => ⟨_, rfl, _, rfl, ae, _, _, _, rfl, rfl, SqT.of (ln np hae3), atI_nat (j := 1) rfl, _, rfl, _, _, rfl, rfl, five_le, fun u nu => ?_⟩⟩⟩
              refine fin (c.s.set c.p.toNat pu) tOut to wa _ G3 g3 ?_ p np u nu
              rw [et, bgo_lv (bn_out ee z)]
              congr 1; omega
      · rintro σ G ⟨c, v6, v7, rfl, g, w, ok, et⟩
        refine ⟨one_le, fun u nu => ?_⟩
        refine q _ _ (.ref u) (g.new (o := .tup [.str tStay.x]) nu) ?_
        rw [et, show mostB R S ss.length + 1 - (((mostB R S ss.length : Nat) : Int) + 1).toNat = 0 by omega]
        exact ⟨u, rfl, upd_same⟩
/-! ### the ways turned about -/
def sp_L_turned : Sp := fun vs H Q _ => ∃ (F : Hp) (v : V) (e : Ent), vs = [v] ∧ Same F H ∧ Is F v e ∧ ∀ (F' H' : Hp) (u : V), Gr mu0 F H F' H' → Is F' u (mirE e) → Q u H'
theorem ok_L_turned (t : Tx K mg) : FnOk P w K mg base CX0 1 t.a_L_turned t.fd_L_turned ["_law_entry_here"] sp_L_turned := by
  refine t.F_L_turned.ok sc_L_turned (fun vs H Q E h => ?_) (fun cdv A outer s H vs Q E hr h => ?_)
  · obtain ⟨F, v, e, rfl, _⟩ := h
    rfl
  · obtain ⟨F, v, e, rfl, sF, hv, q⟩ := h
    refine ⟨_, (pss_cons (ps_if (pt_cmpR (op_eqD hr.units) (pv 0) (pe_tup pa_nil) (nomark _)) (pss_one (ps_ret (pe_tup pa_nil))) pss_nil)
      (pss_one (ps_ret (pe_tup (pa_cons (pe_ix ix_tup (pv 0) pe_int (fun _ _ => rfl)) (pa_cons (pe_op op_sub pe_int (pe_ix ix_tup (pv 0) pe_int (fun _ _ => rfl))) (pa_cons (pe_ix ix_tup (pv 0) pe_int (fun _ _ => rfl)) pa_nil))))))), ?_⟩
    refine ⟨_, rfl, nil_le, fun p np => ?_⟩
    have g1 : Gr mu0 F H F (upd H p (.tup [])) := (Gr.refl sF).own np
    refine eq_dat (a := e) (b := Ent.emp) (hv.up g1.fh) ⟨p, rfl, upd_same⟩ ⟨_, rfl, ?_⟩
    generalize upd H p (.tup []) = H1 at g1 ⊢
    cases e with
    | emp => exact ifT (decide_eq_true rfl) ⟨nil_le, fun u nu => q _ _ _ (g1.new nu) ⟨u, rfl, upd_same⟩⟩
    | go pu wa to =>
      obtain ⟨a, rfl, ha⟩ := hv
      have h1 := SqT.of (K := K) (g1.fh _ _ ha)
      refine ifF (decide_eq_false (by intro z; cases z)) ?_
      exact ⟨_, rfl, a, _, _, _, rfl, rfl, h1, atI_nat (j := 0) rfl, _, rfl, a, _, _, _, rfl, rfl, h1, atI_nat (j := 1) rfl, _, _, rfl, rfl, _, rfl, a, _, _, _, rfl, rfl, h1, atI_nat (j := 2) rfl, three_le, fun u nu => q _ _ _ (g1.new nu) ⟨u, rfl, upd_same⟩⟩
def sp_L_mirrored : Sp := fun vs H Q _ => ∃ (F : Hp) (m : V) (M : Mach) (R S : Nat), vs = [m] ∧ Same F H ∧ Is F m M ∧ MOk M R S ∧ ∀ (F' H' : Hp) (v : V), Gr mu0 F H F' H' → Is F' v (mirM M) → Q v H'
theorem ok_L_mirrored (t : Tx K mg) : FnOk P w K mg base CX0 2 t.a_L_mirrored t.fd_L_mirrored ["_law_machine_here"] sp_L_mirrored := by
  refine t.F_L_mirrored.ok sc_L_mirrored (fun vs H Q E h => ?_) (fun cdv A outer s H vs Q E hr h => ?_)
  · obtain ⟨F, m, M, R, S, rfl, _⟩ := h
    rfl
  · obtain ⟨F, m, M, R, S, rfl, sF, hm, hM, q⟩ := h
    refine ⟨_, (pss_one (ps_ret (pe_lc (own := [("_law_row", 2)]) (g := gName 2) (tt := tYes) rfl sc_L_mirrored.nd (pi_list (pv 0)) (blkOk_by (N := N_L_mirrored) (sc := defScope s_L_mirrored) (by decide +kernel)) (fun _ _ _ _ _ => (pg_name (i := 2) sc_L_mirrored.nd rfl (by first | exact Or.inl rfl | exact Or.inr rfl))) (fun _ _ _ _ _ => pts_nil) (fun _ _ _ _ _ => (pe_lc (own := [("_law_entry_here", 1)]) (g := gName 1) (tt := tYes) rfl sc_L_mirrored.nd (pi_listK (K := K) rfl (pv 2)) (blkOk_by (N := N_L_mirrored) (sc := { kind := PySem.ScopeKind.function, names := [(PySem.Str.ofString ".0", PySem.NameKind.local), (PySem.Str.ofString "_law_row", PySem.NameKind.local)], isGenerator := false, isCoroutine := false }) (by decide +kernel)) (fun _ _ _ _ _ => (pg_name (i := 1) sc_L_mirrored.nd rfl (by first | exact Or.inl rfl | exact Or.inr rfl))) (fun _ _ _ _ _ => pts_nil) (fun _ _ _ _ _ => (pe_call (ok_L_turned t) (hr.mono (by decide)) (by rfl) t.m_L_turned t.F_L_turned.kp t.b_L_turned .nil pass0 (pa_cons (pv 1) pa_nil)))))))), ?_⟩
    have g0 : Gr mu0 F H F H := Gr.refl sF
    obtain ⟨am, rs, rfl, ham, hrs⟩ := id hm
    have r4 := hM.r4
    have s4 := hM.s4
    have lrs : rs.length = R := hrs.1.trans hM.len
    refine ⟨_, rfl, am, rfl, ⟨_, SqL.of (sF _ _ ham)⟩, fun D nD => lc_list (K := K) (a := am) (xs := rs) (fun i G => ∃ (F1 : Hp) (xs : List V), Gr mu0 F H F1 G ∧ Ow H F1 G D (.lst xs) ∧ IsAll F1 xs (mirM (M.take i)))
      ⟨F, [], g0.own nD, Ow.mk1 g0 nD, All2.nil⟩ (fun i G _ ⟨F1, xs, g, _⟩ => SqL.of (g.fh _ _ (g.ff _ _ ham))) ?_ ?_⟩
    · rintro i x G hi ⟨F1, xs, g, w, al⟩
      obtain ⟨row, hMi, ra, es, rfl, hra, hes⟩ := hrs.get' hi
      have il : i < rs.length := (List.getElem?_eq_some_iff.mp hi).1
      have ls : es.length = S := hes.1.trans (hM.row _ (List.mem_of_getElem? hMi))
      have lx : xs.length = i := by rw [al.1]; unfold mirM; rw [List.length_map, List.length_take, ← hrs.1]; omega
      refine ⟨rfl, yes ⟨_, rfl, ra, rfl, ⟨_, SqL.of (g.fh _ _ (g.ff _ _ hra))⟩, fun E nE => lc_list (K := K) (a := ra) (xs := es) (fun j G2 => ∃ (F2 : Hp) (ys : List V), Gr mu0 F H F2 G2 ∧ Same F1 F2 ∧ Ow H F2 G2 D (.lst xs) ∧ Ow H F2 G2 E (.lst ys) ∧ IsAll F2 ys ((row.take j).map mirE))
        ⟨F1, [], g.own nE, Same.refl F1, w.own nE, Ow.mk1 g nE, All2.nil⟩ (fun j G2 _ ⟨F2, ys, g2, _⟩ => SqL.of (g2.fh _ _ (g2.ff _ _ hra))) ?_ ?_⟩⟩
      · rintro j y G2 hj ⟨F2, ys, g2, s12, wD, wE, al2⟩
        obtain ⟨e, hej, ie⟩ := hes.get' hj
        have jl : j < es.length := (List.getElem?_eq_some_iff.mp hj).1
        have ly : ys.length = j := by rw [al2.1, List.length_map, List.length_take, ← hes.1]; omega
        refine ⟨rfl, yes ⟨_, rfl, F2, y, e, rfl, g2.fh, Is.up ie g2.ff, fun F3 G3 u g3 iu => ?_⟩⟩
        have wE3 := wE.call g3 (fun z => z)
        have wD3 := wD.call g3 (fun z => z)
        refine ⟨ys, wE3.h, lt_size (by omega), F3, ys ++ [u], (g2.trans g3).set wE3.f (.inl wE3.n), fun c o h => g3.ff c o (s12 c o h), wD3.other (w.ne nE), wE3.set, ?_⟩
        rw [map_take_succ hej]
        exact (al2.up g3.ff).app (All2.one iu)
      · rintro G2 ⟨F2, ys, g2, s12, wD, wE, al2⟩
        rw [hes.1, List.take_length] at al2
        have g3 := g2.frz wE.h wE.n wE.f
        have wD3 : Ow H (upd F2 E (.lst ys)) G2 D (.lst xs) := wD.frz' (w.ne nE)
        have s3 : Same F2 (upd F2 E (.lst ys)) := sm_new (Same.refl F2) wE.f
        refine ⟨xs, wD.h, lt_size (by omega), upd F2 E (.lst ys), xs ++ [.ref E], g3.set wD3.f (.inl wD3.n), wD3.set, ?_⟩
        have tk : mirM (M.take (i + 1)) = mirM (M.take i) ++ [row.map mirE] := map_take_succ hMi
        rw [tk]
        exact (al.up (fun c o h => s3 c o (s12 c o h))).app (All2.one ⟨E, ys, rfl, upd_same, al2.up s3⟩)
    · rintro G ⟨F1, xs, g, w, al⟩
      rw [hrs.1, List.take_length] at al
      exact q _ _ (.ref D) (g.frz w.h w.n w.f) ⟨D, xs, rfl, upd_same, al.up (sm_new (Same.refl F1) w.f)⟩
/-! ### turned about -/
def sp_L_turned_about : Sp := fun vs H Q _ => ∃ (F : Hp) (v : V) (x : ThR), vs = [v] ∧ Same F H ∧ Is F v x ∧ (∀ w s r y n, x = .fin w s r y n → (w = tEnd ∨ w = tOut) ∧ s.length ≤ 100) ∧ ∀ (F' H' : Hp) (u : V), Gr mu0 F H F' H' → Is F' u x.rev → Q u H'
theorem ok_L_turned_about (t : Tx K mg) : FnOk P w K mg base CX0 1 t.a_L_turned_about t.fd_L_turned_about ["_law_found"] sp_L_turned_about := by
  refine t.F_L_turned_about.ok sc_L_turned_about (fun vs H Q E h => ?_) (fun cdv A outer s H vs Q E hr h => ?_)
  · obtain ⟨F, v, x, rfl, _⟩ := h
    rfl
  · obtain ⟨F, v, x, rfl, sF, hv, hl, q⟩ := h
    refine ⟨_, (pss_cons (ps_if (pt_cmpR op_eq (pe_ix ix_tup (pv 0) pe_int (fun _ _ => rfl)) pe_str (nomark _)) (pss_one (ps_ret (pv 0))) pss_nil)
      (pss_cons (ps_set (i := 1) sc_L_turned_about.nd rfl (by first | exact Or.inl rfl | exact Or.inr rfl) (pe_op op_sub pe_int (pe_ix ix_tup (pv 0) pe_int (fun _ _ => rfl))))
      (pss_cons (ps_if (pt_cmpR op_eq (pe_ix ix_tup (pv 0) pe_int (fun _ _ => rfl)) pe_str (nomark _)) (pss_one (ps_set (i := 1) sc_L_turned_about.nd rfl (by first | exact Or.inl rfl | exact Or.inr rfl) (pe_op op_sub (pe_op op_sub (pe_callB (id := "len") call_lenQ (by rfl) t.n_len (by decide +kernel) (pa_cons (pe_ix ix_tup (pv 0) pe_int (fun _ _ => rfl)) pa_nil)) pe_int) (pe_ix ix_tup (pv 0) pe_int (fun _ _ => rfl))))) pss_nil)
      (pss_one (ps_ret (pe_tup (pa_cons (pe_ix ix_tup (pv 0) pe_int (fun _ _ => rfl)) (pa_cons (pe_revT (pe_ix ix_tup (pv 0) pe_int (fun _ _ => rfl))) (pa_cons (pe_ix ix_tup (pv 0) pe_int (fun _ _ => rfl)) (pa_cons (pv 1) (pa_cons (pe_ix ix_tup (pv 0) pe_int (fun _ _ => rfl)) pa_nil))))))))))), ?_⟩
    have g0 : Gr mu0 F H F H := Gr.refl sF
    cases x with
    | stay =>
      obtain ⟨p, rfl, hp⟩ := id hv
      refine ⟨_, rfl, p, _, _, _, rfl, rfl, SqT.of (sF _ _ hp), atI_nat (j := 0) rfl, rfl, _, rfl, ifT (decide_eq_true rfl) ⟨_, rfl, ?_⟩⟩
      exact q F H _ g0 hv
    | fin w s r y n =>
      obtain ⟨p, b, rfl, hp, hb⟩ := id hv
      have hp' := SqT.of (K := K) (sF _ _ hp)
      have hb' := SqT.of (K := K) (sF _ _ hb)
      obtain ⟨hw, l1⟩ := hl _ _ _ _ _ rfl
      have fin : ∀ c, H c = none → ∀ u, upd H c (.tup (s.map V.int).reverse) u = none → Q (.ref u) (upd (upd H c (.tup (s.map V.int).reverse)) u (.tup [.str w.x, .ref c, .int r, .int (revX w s.length y), .int n])) := by
        intro c nc u nu
        have g1 := g0.new (o := .tup (s.map V.int).reverse) nc
        refine q _ _ (.ref u) (g1.new nu) ⟨u, c, rfl, upd_same, ?_⟩
        have n2 : (upd F c (.tup (s.map V.int).reverse)) u = none := g1.fh.free nu
        rw [List.map_reverse]
        exact ln n2 upd_same
      rcases hw with rfl | rfl
      · have e : revX tEnd s.length y = ((s.map V.int).length : Int) - 1 - y := by unfold revX; rw [if_pos rfl, List.length_map]
        rw [e] at fin
        refine ⟨_, rfl, p, _, _, _, rfl, rfl, hp', atI_nat (j := 0) rfl, rfl, _, rfl, ifF (by decide +kernel) ?_⟩
        refine ⟨_, rfl, p, _, _, _, rfl, rfl, hp', atI_nat (j := 3) rfl, _, _, rfl, rfl, ?_⟩
        refine ⟨_, rfl, p, _, _, _, rfl, rfl, hp', atI_nat (j := 0) rfl, rfl, _, rfl, ifT (decide_eq_true rfl) ?_⟩
        refine ⟨_, rfl, p, _, _, _, rfl, rfl, hp', atI_nat (j := 1) rfl, b, _, rfl, .inr hb', _, _, rfl, rfl, _, rfl, p, _, _, _, rfl, rfl, hp', atI_nat (j := 3) rfl, _, _, rfl, rfl, ?_⟩
        exact ⟨_, rfl, p, _, _, _, rfl, rfl, hp', atI_nat (j := 0) rfl, _, rfl, p, _, _, _, rfl, rfl, hp', atI_nat (j := 1) rfl, b, _, rfl, hb', fun c nc => ⟨_, rfl, p, _, _, _, rfl, rfl, SqT.of (ln nc (sF _ _ hp)), atI_nat (j := 2) rfl, _, rfl, _, rfl, p, _, _, _, rfl, rfl, SqT.of (ln nc (sF _ _ hp)), atI_nat (j := 4) rfl, five_le, fin c nc⟩⟩
      · have e : revX tOut s.length y = 0 - y := by unfold revX; rw [if_neg (by decide +kernel)]
        rw [e] at fin
        refine ⟨_, rfl, p, _, _, _, rfl, rfl, hp', atI_nat (j := 0) rfl, rfl, _, rfl, ifF (by decide +kernel) ?_⟩
        refine ⟨_, rfl, p, _, _, _, rfl, rfl, hp', atI_nat (j := 3) rfl, _, _, rfl, rfl, ?_⟩
        refine ⟨_, rfl, p, _, _, _, rfl, rfl, hp', atI_nat (j := 0) rfl, rfl, _, rfl, ifF (by decide +kernel) ?_⟩
        exact ⟨_, rfl, p, _, _, _, rfl, rfl, hp', atI_nat (j := 0) rfl, _, rfl, p, _, _, _, rfl, rfl, hp', atI_nat (j := 1) rfl, b, _, rfl, hb', fun c nc => ⟨_, rfl, p, _, _, _, rfl, rfl, SqT.of (ln nc (sF _ _ hp)), atI_nat (j := 2) rfl, _, rfl, _, rfl, p, _, _, _, rfl, rfl, SqT.of (ln nc (sF _ _ hp)), atI_nat (j := 4) rfl, five_le, fin c nc⟩⟩
/-! ### a block's halves, handed from one to the other -/
theorem bool_ne {a b : Bool} (h : a ≠ b) : a = !b := by
  revert h
  cases a <;> cases b <;> decide
def sdI (b : Bool) : Int := if b then 1 else -1
def ziI (b : Bool) : Int := if b = true then 1 else 0
theorem sdI_dec (b : Bool) : decide (sdI b = 1) = b := by cases b <;> decide
theorem sdI_inj {a b : Bool} (h : sdI a = sdI b) : a = b := by rw [← sdI_dec a, ← sdI_dec b, h]
theorem ziI_inj {a b : Bool} (h : ziI a = ziI b) : a = b := by cases a <;> cases b <;> first | rfl | (exact absurd h (by decide))
theorem cut_l {as bs : List V} {L : Nat} (h : as.length = L) : cutV (as ++ bs) none (some (L : Int)) = as := by
  unfold cutV
  rw [HT.sIx_none, HT.sIx_nat, List.drop_zero, Nat.sub_zero, List.length_append, h, Nat.min_eq_left (by omega), List.take_append_of_le_length (by omega), List.take_of_length_le (by omega)]
theorem cut_r {as bs : List V} {L : Nat} (h : as.length = L) : cutV (as ++ bs) (some (L : Int)) none = bs := by
  unfold cutV
  rw [HT.sIx_none, HT.sIx_nat, List.length_append, h, Nat.min_eq_left (by omega), List.drop_append_of_le_length (by omega), List.drop_of_length_le (by omega), List.nil_append, List.take_of_length_le (by omega)]
def Hv.py (h : Hv) : PyData := .tuple [.int (ziI h.far), .int h.row, .int (sdI h.ri), .tuple (h.h0.map .int), .tuple (h.h1.map .int)]
instance : Dat Hv where
  rep := fun H v h => ∃ p a b, v = .ref p ∧ H p = some (.tup [.int (ziI h.far), .int h.row, .int (sdI h.ri), .ref a, .ref b]) ∧ H a = some (.tup (h.h0.map V.int)) ∧ H b = some (.tup (h.h1.map V.int))
  mono := fun s h => by
    obtain ⟨p, a, b, e, h, i, j⟩ := h
    exact ⟨p, a, b, e, s _ _ h, s _ _ i, s _ _ j⟩
  py := Hv.py
  dp := fun {K H v d} h => by
    obtain ⟨p, a, b, rfl, h, i, j⟩ := h
    exact .tup (SqT.of h) (.cons (.int _) (.cons (.int _) (.cons (.int _) (.cons (.tup (SqT.of i) (dp_all (α := Int) (all_ints _))) (.cons (.tup (SqT.of j) (dp_all (α := Int) (all_ints _))) .nil)))))
  can := fun d => by
    show (true && (true && (true && (PyData.canLayAll0 (d.h0.map .int) && (PyData.canLayAll0 (d.h1.map .int) && true))))) = true
    rw [can_ints, can_ints]; rfl
  dep := 2
  depth := fun d => by
    have h := depth_ints d.h0
    have h' := depth_ints d.h1
    show max 0 (max 0 (max 0 (max (PyData.depthAll (d.h0.map .int) + 1) (max (PyData.depthAll (d.h1.map .int) + 1) 0)))) + 1 ≤ 2
    omega
  eqv := fun a b => by
    obtain ⟨f, r, i, g, h⟩ := a
    obtain ⟨f', r', i', g', h'⟩ := b
    simp only [Hv.py, PyData.eqv, PyData.eqvAll, Bool.and_eq_true, eqv_ints, beq_iff_eq, Hv.mk.injEq, and_true]
    constructor
    · rintro ⟨e1, e2, e3, e4, e5⟩
      exact ⟨ziI_inj e1, e2, sdI_inj e3, e4, e5⟩
    · rintro ⟨e1, e2, e3, e4, e5⟩
      exact ⟨by rw [e1], e2, by rw [e3], e4, e5⟩
theorem any_dat {α : Type} [Dat α] [DecidableEq α] (x : α) (l : List α) : ((l.map Dat.py).any fun z => PyData.eqv z (Dat.py x)) = decide (x ∈ l) := by
  rw [Bool.eq_iff_iff, List.any_map, List.any_eq_true, decide_eq_true_iff]
  constructor
  · rintro ⟨y, m, e⟩
    have e : PyData.eqv (Dat.py y) (Dat.py x) = true := e
    rw [Dat.eqv] at e
    rw [← e]; exact m
  · intro m
    refine ⟨x, m, ?_⟩
    show PyData.eqv (Dat.py x) (Dat.py x) = true
    rw [Dat.eqv]
theorem notIn_dat {α : Type} [Dat α] [DecidableEq α] {K : PySem.W.Frag} {H : Hp} {x : V} {a : Addr} {xs : List V} {d : α} {l : List α} {Q : VK} (hx : Is H x d) (ha : H a = some (.lst xs)) (al : IsAll H xs l) (q : Q (.bl (!decide (d ∈ l))) H) (hd : Dat.dep α ≤ 63 := by decide) : rNotInD K x (.ref a) H Q := by
  refine ⟨Dat.py d, l.map Dat.py, Dat.dp hx, .lst (SqL.of ha) (dp_all al), (eq_dat0 (a := d) (b := d) (by omega)).1, (eq_dat0 (α := List α) (a := l) (b := l) (by show Dat.dep α + 1 ≤ 64; omega)).1, ?_⟩
  rw [any_dat]; exact q
theorem at_h {a b : Addr} {f : Bool} : atI [V.ref a, V.ref b] (ziI f) = some (V.ref (if f then b else a)) := by cases f <;> rfl
theorem ix_h {a b : V} {f : Bool} : ixN [a, b].length (ziI f) = some (ziI f).toNat := by cases f <;> rfl
theorem set_h {a b q : Addr} {f : Bool} : ([V.ref a, V.ref b]).set (ziI f).toNat (.ref q) = [V.ref (if f then a else q), V.ref (if f then q else b)] := by cases f <;> rfl
def sp_L_halves : Sp := fun vs H Q _ => ∃ (F : Hp) (m : V) (b : Addr) (M : Mach) (R S L : Nat) (h0 h1 : List Int) (row : Int) (ri : Bool), vs = [m, .ref b, .int row, .int (sdI ri)] ∧ Same F H ∧ Is F m M ∧ MOk M R S ∧ F b = some (.tup ((h0 ++ h1).map V.int)) ∧ h0.length = L ∧ h1.length = L ∧ 1 ≤ L ∧ L ≤ 2 ∧ SOk S h0 ∧ SOk S h1 ∧ 0 ≤ row ∧ row < R ∧
  ∀ (F' H' : Hp) (v : V), Gr mu0 F H F' H' → Is F' v (thr M R S (h0 ++ h1) row ri) → Q v H'
theorem ok_L_halves (t : Tx K mg) : FnOk P w K mg base CX0 5 t.a_L_halves t.fd_L_halves ["_law_machine_here", "_law_block", "_law_row", "_law_side"] sp_L_halves := by
  refine t.F_L_halves.ok sc_L_halves (fun vs H Q E h => ?_) (fun cdv A outer s H vs Q E hr h => ?_)
  · obtain ⟨F, m, b, M, R, S, L, h0, h1, row, ri, rfl, _⟩ := h
    rfl
  · obtain ⟨F, m, b, M, R, S, L, h0, h1, row, ri, rfl, sF, hm, hM, hb, l0, l1, L1, L2, s0, s1, r0, r1, q⟩ := h
    refine ⟨_, (pss_cons (ps_set (i := 4) sc_L_halves.nd rfl (by first | exact Or.inl rfl | exact Or.inr rfl) (pe_op op_fdiv (pe_callB (id := "len") call_lenQ (by rfl) t.n_len (by decide +kernel) (pa_cons (pv 1) pa_nil)) pe_int))
      (pss_cons (ps_set (i := 5) sc_L_halves.nd rfl (by first | exact Or.inl rfl | exact Or.inr rfl) (pe_lst (pa_cons (pe_slice sl_tupQ (pv 1) po_none (po_some (pv 4))) (pa_cons (pe_slice sl_tupQ (pv 1) (po_some (pv 4)) po_none) pa_nil))))
      (pss_cons (ps_set (i := 6) sc_L_halves.nd rfl (by first | exact Or.inl rfl | exact Or.inr rfl) (pe_callTy (T := "int") call_int1 (by rfl) t.n_int (by decide +kernel) (pa_cons (pe_cmpR op_eq (pv 3) pe_int (nomark _)) pa_nil)))
      (pss_cons (ps_set (i := 7) sc_L_halves.nd rfl (by first | exact Or.inl rfl | exact Or.inr rfl) pe_int)
      (pss_cons (ps_set (i := 8) sc_L_halves.nd rfl (by first | exact Or.inl rfl | exact Or.inr rfl) (pe_lst pa_nil))
      (pss_cons (ps_while PassesOwn.never (pt_cmpR (op_notInD (units65 hr)) (pe_tup (pa_cons (pv 6) (pa_cons (pv 2) (pa_cons (pv 3) (pa_cons (pe_ix ix_list (pv 5) pe_int (fun _ _ => rfl)) (pa_cons (pe_ix ix_list (pv 5) pe_int (fun _ _ => rfl)) pa_nil)))))) (pv 8) (by rfl)) (pss_cons (ps_expr (pe_bm PySem.F.plainAttrs_list PySem.F.slot_list_append PySem.F.type_list_append mt_append (pv 8) (pa_cons (pe_tup (pa_cons (pv 6) (pa_cons (pv 2) (pa_cons (pv 3) (pa_cons (pe_ix ix_list (pv 5) pe_int (fun _ _ => rfl)) (pa_cons (pe_ix ix_list (pv 5) pe_int (fun _ _ => rfl)) pa_nil)))))) pa_nil)))
      (pss_cons (ps_set (i := 9) sc_L_halves.nd rfl (by first | exact Or.inl rfl | exact Or.inr rfl) (pe_call (ok_through t) (hr.mono (by decide)) (by rfl) t.m_through t.F_through.kp t.b_through .nil pass0 (pa_cons (pv 0) (pa_cons (pe_ix ix_list (pv 5) (pv 6) (fun _ _ => rfl)) (pa_cons (pv 2) (pa_cons (pv 3) pa_nil))))))
      (pss_cons (ps_if (pt_cmpR op_eq (pe_ix ix_tup (pv 9) pe_int (fun _ _ => rfl)) pe_str (nomark _)) (pss_one (ps_ret (pv 9))) pss_nil)
      (pss_cons (ps_asg (pe_ix ix_tup (pv 9) pe_int (fun _ _ => rfl)) (pg_sub (pv 5) (pv 6) set_list))
      (pss_cons (ps_set (i := 7) sc_L_halves.nd rfl (by first | exact Or.inl rfl | exact Or.inr rfl) (pe_op op_add (pv 7) (pe_ix ix_tup (pv 9) pe_int (fun _ _ => rfl))))
      (pss_cons (ps_set (i := 2) sc_L_halves.nd rfl (by first | exact Or.inl rfl | exact Or.inr rfl) (pe_ix ix_tup (pv 9) pe_int (fun _ _ => rfl)))
      (pss_cons (ps_if (pt_cmpR op_eq (pe_ix ix_tup (pv 9) pe_int (fun _ _ => rfl)) pe_str (nomark _)) (pss_one (ps_ret (pe_tup (pa_cons pe_str (pa_cons (pe_op op_catQ (pe_ix ix_list (pv 5) pe_int (fun _ _ => rfl)) (pe_ix ix_list (pv 5) pe_int (fun _ _ => rfl))) (pa_cons (pv 2) (pa_cons (pe_op op_add (pe_op op_mul (pv 6) (pv 4)) (pe_ix ix_tup (pv 9) pe_int (fun _ _ => rfl))) (pa_cons (pv 7) pa_nil)))))))) pss_nil)
      (pss_cons (ps_if (pt_cmpR op_notIn_seq (pe_op op_add (pv 6) (pe_ix ix_tup (pv 9) pe_int (fun _ _ => rfl))) (pe_tup (pa_cons pe_int (pa_cons pe_int pa_nil))) (by rfl)) (pss_one (ps_ret (pe_tup (pa_cons pe_str (pa_cons (pe_op op_catQ (pe_ix ix_list (pv 5) pe_int (fun _ _ => rfl)) (pe_ix ix_list (pv 5) pe_int (fun _ _ => rfl))) (pa_cons (pv 2) (pa_cons (pe_ix ix_tup (pv 9) pe_int (fun _ _ => rfl)) (pa_cons (pv 7) pa_nil)))))))) pss_nil)
      (pss_cons (ps_set (i := 6) sc_L_halves.nd rfl (by first | exact Or.inl rfl | exact Or.inr rfl) (pe_op op_add (pv 6) (pe_ix ix_tup (pv 9) pe_int (fun _ _ => rfl))))
      (pss_one (ps_set (i := 3) sc_L_halves.nd rfl (by first | exact Or.inl rfl | exact Or.inr rfl) (pe_op op_sub pe_int (pe_ix ix_tup (pv 9) pe_int (fun _ _ => rfl)))))))))))))))
      (pss_one (ps_ret (pe_tup (pa_cons pe_str pa_nil)))))))))), ?_⟩
    have g0 : Gr mu0 F H F H := Gr.refl sF
    have el : ((h0 ++ h1).map V.int).length = L + L := by rw [List.length_map, List.length_append, l0, l1]
    have em : (h0 ++ h1).map V.int = h0.map V.int ++ h1.map V.int := List.map_append
    have lm0 : (h0.map V.int).length = L := by rw [List.length_map, l0]
    refine ⟨_, rfl, b, _, rfl, .inr (SqT.of (sF _ _ hb)), _, _, rfl, rfl, ⟨by decide, by decide⟩, ?_⟩
    dsimp only
    rw [el, show (((L + L : Nat) : Int) / 2) = (L : Int) by omega]
    -- the halves
    refine ⟨_, rfl, _, rfl, _, rfl, slA_cut (SqT.of (sF _ _ hb)) (by rw [el, HT.sIx_nat, HT.sIx_none]; omega) fun a0 n0 => ?_⟩
    rw [em, cut_l lm0]
    have g1 := g0.new (o := .tup (h0.map V.int)) n0
    refine ⟨_, rfl, _, rfl, _, rfl, slA_cut (SqT.of (g1.fh _ _ (g1.ff _ _ hb))) (by rw [el, HT.sIx_nat, HT.sIx_none]; omega) fun a1 n1 => ?_⟩
    rw [em, cut_r lm0]
    have g2 := g1.new (o := .tup (h1.map V.int)) n1
    have k0 : (upd (upd F a0 (.tup (h0.map V.int))) a1 (.tup (h1.map V.int))) a0 = some (.tup (h0.map V.int)) := ln (g1.fh.free n1) upd_same
    have k1 : (upd (upd F a0 (.tup (h0.map V.int))) a1 (.tup (h1.map V.int))) a1 = some (.tup (h1.map V.int)) := upd_same
    generalize upd (upd F a0 (.tup (h0.map V.int))) a1 (.tup (h1.map V.int)) = F2 at g2 k0 k1
    generalize upd (upd H a0 (.tup (h0.map V.int))) a1 (.tup (h1.map V.int)) = H2 at g2 ⊢
    refine ⟨two_le, fun hl nl => ?_⟩
    have g3 := g2.own (o := .lst [.ref a0, .ref a1]) nl
    have w3 : Ow H F2 (upd H2 hl (.lst [.ref a0, .ref a1])) hl (.lst [.ref a0, .ref a1]) := Ow.mk1 g2 nl
    generalize upd H2 hl (.lst [.ref a0, .ref a1]) = H3 at g3 w3 ⊢
    refine ⟨_, rfl, rfl, .inr ⟨_, rfl, ?_⟩⟩
    rw [show (V.int (if decide (V.int (sdI ri) = V.int 1) = true then 1 else 0)) = V.int (ziI ri) by rw [int_eq2, sdI_dec]; rfl]
    refine ⟨nil_le, fun D nD => ?_⟩
    have g4 := g3.own (o := .lst []) nD
    have w4 := w3.own (u := .lst []) nD
    have d4 : Ow H F2 (upd H3 D (.lst [])) D (.lst []) := Ow.mk1 g3 nD
    have hD : hl ≠ D := w3.ne nD
    generalize upd H3 D (.lst []) = H4 at g4 w4 d4 ⊢
    have okW : SOk S (h0 ++ h1) := s0.app s1
    have lW : 1 ≤ (h0 ++ h1).length := by rw [List.length_append]; omega
    have bd : 4 * (R * S ^ (L + L)) ≤ 4096 := by
      have a : S ^ (L + L) ≤ 4 ^ 4 := Nat.le_trans (Nat.pow_le_pow_left hM.s4 _) (Nat.pow_le_pow_right (by decide) (by omega))
      have b : R * S ^ (L + L) ≤ 4 * 4 ^ 4 := Nat.mul_le_mul hM.r4 a
      omega
    refine ⟨fun n σ G => ∃ (F1 : Hp) (k : Nat) (h : Hv) (sn : List Hv) (xs : List V) (c0 c1 : Addr) (v9 : Option V), σ = [some m, some (.ref b), some (.int h.row), some (.int (sdI h.ri)), some (.int L), some (.ref hl), some (.int (ziI h.far)), some (.int k), some (.ref D), v9] ∧
      Gr mu0 F H F1 G ∧ Ow H F1 G hl (.lst [.ref c0, .ref c1]) ∧ F1 c0 = some (.tup (h.h0.map V.int)) ∧ F1 c1 = some (.tup (h.h1.map V.int)) ∧ Ow H F1 G D (.lst xs) ∧ IsAll F1 xs sn ∧ HvOk R S L h ∧ (∀ x ∈ sn, HvOk R S L x ∧ ∃ j, j < k ∧ tj M j (st0 (h0 ++ h1) row ri) = some x.bs) ∧ sn.Pairwise (· ≠ ·) ∧ tj M k (st0 (h0 ++ h1) row ri) = some h.bs ∧ n + sn.length = 4097,
      ⟨4097, F2, 0, ⟨ri, row, ri, h0, h1⟩, [], [], a0, a1, none, rfl, g4, w4, k0, k1, d4, All2.nil, ⟨l0, l1, s0, s1, r0, r1⟩, (fun x z => nomatch z), .nil, ?_, rfl⟩, ?_⟩
    · show some (st0 (h0 ++ h1) row ri) = some (Hv.bs ⟨ri, row, ri, h0, h1⟩)
      congr 1
      cases ri
      · rfl
      · show (⟨h0 ++ h1, ((h0 ++ h1).length : Int) - 1, row⟩ : Bs) = ⟨h0 ++ h1, (h0.length : Int) + ((h1.length : Int) - 1), row⟩
        rw [List.length_append]
        congr 1; omega
    rintro n σ G ⟨F1, k, h, sn, xs, c0, c1, v9, rfl, g, w, e0, e1, d, al, ok, hsn, nd, tk, en⟩
    refine ⟨_, rfl, _, rfl, _, rfl, _, rfl, hl, _, _, _, rfl, rfl, SqL.of w.h, atI_nat (j := 0) rfl, _, rfl, hl, _, _, _, rfl, rfl, SqL.of w.h, atI_nat (j := 1) rfl, five_le, fun p np => ⟨_, rfl, ?_⟩⟩
    have ga := g.own (o := .tup [.int (ziI h.far), .int h.row, .int (sdI h.ri), .ref c0, .ref c1]) np
    have wa := w.own (u := .tup [.int (ziI h.far), .int h.row, .int (sdI h.ri), .ref c0, .ref c1]) np
    have da := d.own (u := .tup [.int (ziI h.far), .int h.row, .int (sdI h.ri), .ref c0, .ref c1]) np
    refine notIn_dat (d := h) (l := sn) ⟨p, c0, c1, rfl, upd_same, ga.fh _ _ e0, ga.fh _ _ e1⟩ da.h (al.up ga.fh) ⟨_, rfl, ?_⟩
    generalize upd G p (.tup [.int (ziI h.far), .int h.row, .int (sdI h.ri), .ref c0, .ref c1]) = Ga at ga wa da ⊢
    by_cases hin : h ∈ sn
    · refine ifF (by rw [decide_eq_true hin]; rfl) ⟨one_le, fun u nu => ?_⟩
      obtain ⟨_, j, jk, tj'⟩ := hsn h hin
      refine q _ _ (.ref u) (ga.new (o := .tup [.str tStay.x]) nu) ?_
      rw [thr_nv (NV.two jk tj' tk)]
      exact ⟨u, rfl, upd_same⟩
    · refine ifT (by rw [decide_eq_false hin]; rfl) ?_
      have sl := seen_le (R := R) (S := S) (L := L) (l := sn ++ [h]) (fun x z => by
        rcases List.mem_append.mp z with z | z
        · exact (hsn x z).1
        · rw [List.mem_singleton.mp z]; exact ok) (List.pairwise_append.mpr ⟨nd, List.pairwise_singleton _ _, fun a ha b hb => by rw [List.mem_singleton.mp hb]; exact fun z => hin (z ▸ ha)⟩)
      rw [List.length_append] at sl
      have sl : sn.length + 1 ≤ 4096 := Nat.le_trans sl bd
      refine ⟨_, fun σ' G' z => z, ?_⟩
      -- seen.append(..)
      refine ⟨_, rfl, .inl ⟨rfl, _, SqL.of da.h⟩, _, rfl, _, rfl, _, rfl, _, rfl, hl, _, _, _, rfl, rfl, SqL.of wa.h, atI_nat (j := 0) rfl, _, rfl, hl, _, _, _, rfl, rfl, SqL.of wa.h, atI_nat (j := 1) rfl, five_le, fun y ny => ⟨D, xs, _, rfl, rfl, ln ny da.h, lt_size (by rw [al.1]; omega), ?_⟩⟩
      have gb := ga.new (o := .tup [.int (ziI h.far), .int h.row, .int (sdI h.ri), .ref c0, .ref c1]) ny
      have wb := wa.new (u := .tup [.int (ziI h.far), .int h.row, .int (sdI h.ri), .ref c0, .ref c1]) ny
      have db := da.new (u := .tup [.int (ziI h.far), .int h.row, .int (sdI h.ri), .ref c0, .ref c1]) ny
      have sb : Same F1 (upd F1 y (.tup [.int (ziI h.far), .int h.row, .int (sdI h.ri), .ref c0, .ref c1])) := sm_new (Same.refl F1) (ga.fh.free ny)
      have hy : (upd F1 y (.tup [.int (ziI h.far), .int h.row, .int (sdI h.ri), .ref c0, .ref c1])) y = some (.tup [.int (ziI h.far), .int h.row, .int (sdI h.ri), .ref c0, .ref c1]) := upd_same
      have e0b := sb _ _ e0
      have e1b := sb _ _ e1
      have alb := (al.up sb).app (All2.one (show Is _ (.ref y) h from ⟨y, c0, c1, rfl, hy, e0b, e1b⟩))
      generalize upd F1 y (.tup [.int (ziI h.far), .int h.row, .int (sdI h.ri), .ref c0, .ref c1]) = Fb at gb wb db sb e0b e1b alb
      generalize upd Ga y (.tup [.int (ziI h.far), .int h.row, .int (sdI h.ri), .ref c0, .ref c1]) = Gb at gb wb db ⊢
      have gc := gb.set (o := .lst (xs ++ [.ref y])) db.f (.inl db.n)
      have wc := wb.other (u := .lst (xs ++ [.ref y])) hD
      have dc := db.set (u := .lst (xs ++ [.ref y]))
      generalize upd Gb D (.lst (xs ++ [.ref y])) = Gc at gc wc dc ⊢
      have hit : Fb (if h.far then c1 else c0) = some (.tup (h.it.map V.int)) := by
        unfold Hv.it
        cases h.far
        · exact e0b
        · exact e1b
      have hsn' : ∀ j, k < j → ∀ x ∈ sn ++ [h], HvOk R S L x ∧ ∃ i, i < j ∧ tj M i (st0 (h0 ++ h1) row ri) = some x.bs := fun j hj x z => by
        rcases List.mem_append.mp z with z | z
        · obtain ⟨z1, i, z2, z3⟩ := hsn x z
          exact ⟨z1, i, by omega, z3⟩
        · rw [List.mem_singleton.mp z]; exact ⟨ok, k, hj, tk⟩
      have nd' : (sn ++ [h]).Pairwise (· ≠ ·) := List.pairwise_append.mpr ⟨nd, List.pairwise_singleton _ _, fun a ha b hb => by rw [List.mem_singleton.mp hb]; exact fun z => hin (z ▸ ha)⟩
      -- found = through(..)
      refine ⟨_, rfl, _, rfl, _, rfl, hl, _, _, _, rfl, rfl, SqL.of wc.h, at_h, _, rfl, _, rfl, Fb, m, (if h.far then c1 else c0), M, R, S, h.it, h.row, sdI h.ri, rfl, gc.fh, hm.up gc.ff, hM, hit, ok.it.2, by rw [ok.it.1]; exact L1, by rw [ok.it.1]; omega, ok.r0, ok.r1, fun F5 H5 v5 g5 i5 => ?_⟩
      rw [sdI_dec] at i5
      have g6 := gc.trans g5
      have w6 := wc.call g5 (fun z => z)
      have d6 := dc.call g5 (fun z => z)
      have e06 := g5.ff _ _ e0b
      have e16 := g5.ff _ _ e1b
      have al6 := IsAll.up alb g5.ff
      cases et : thr M R S h.it h.row h.ri with
      | stay =>
        rw [et] at i5
        obtain ⟨r, rfl, hr⟩ := id i5
        refine ⟨_, rfl, r, _, _, _, rfl, rfl, SqT.of (g5.fh _ _ hr), atI_nat (j := 0) rfl, rfl, _, rfl, ifT (decide_eq_true rfl) ⟨_, rfl, ?_⟩⟩
        refine q F5 H5 _ g6 ?_
        rw [thr_nv (hv_stay hM L1 ok et tk)]
        exact i5
      | fin wd s' r' x' m' =>
        rw [et] at i5
        obtain ⟨r, b', rfl, hr, hb'⟩ := id i5
        have hr6 := SqT.of (K := K) (g5.fh _ _ hr)
        have hw : wd = tEnd ∨ wd = tOut := by
          obtain ⟨i, c, d, _, z, _⟩ := thr_fin et
          exact word_of z
        have nstay : decide (V.str wd.x = V.str "stay") = false := by rcases hw with rfl | rfl <;> decide +kernel
        refine ⟨_, rfl, r, _, _, _, rfl, rfl, hr6, atI_nat (j := 0) rfl, rfl, _, rfl, ifF nstay ?_⟩
        -- halves[at] = found[1]
        refine ⟨_, rfl, r, _, _, _, rfl, rfl, hr6, atI_nat (j := 1) rfl, _, rfl, _, rfl, hl, _, _, _, rfl, rfl, w6.h, ix_h, ?_⟩
        rw [set_h]
        have g7 := g6.set (o := .lst [V.ref (if h.far then c0 else b'), V.ref (if h.far then b' else c1)]) w6.f (.inl w6.n)
        have w7 := w6.set (u := .lst [V.ref (if h.far then c0 else b'), V.ref (if h.far then b' else c1)])
        have d7 := d6.other (u := .lst [V.ref (if h.far then c0 else b'), V.ref (if h.far then b' else c1)]) hD.symm
        generalize upd H5 hl (.lst [V.ref (if h.far then c0 else b'), V.ref (if h.far then b' else c1)]) = H7 at g7 w7 d7 ⊢
        have hr7 := g7.fh _ _ hr
        refine ⟨_, rfl, _, rfl, r, _, _, _, rfl, rfl, SqT.of hr7, atI_nat (j := 4) rfl, _, _, rfl, rfl, ?_⟩
        refine ⟨_, rfl, r, _, _, _, rfl, rfl, SqT.of hr7, atI_nat (j := 2) rfl, ?_⟩
        have f0 : ∀ (far : Bool) (row : Int) (ri : Bool), F5 (if h.far then c0 else b') = some (.tup ((h.put s' far row ri).h0.map V.int)) := fun far row ri => by
          show _ = some (HO.tup ((if h.far then h.h0 else s').map V.int))
          cases h.far
          · exact hb'
          · exact e06
        have f1 : ∀ (far : Bool) (row : Int) (ri : Bool), F5 (if h.far then b' else c1) = some (.tup ((h.put s' far row ri).h1.map V.int)) := fun far row ri => by
          show _ = some (HO.tup ((if h.far then s' else h.h1).map V.int))
          cases h.far
          · exact e16
          · exact hb'
        -- what is told of the whole
        have fin : ∀ (G8 : Hp) (tg : TStr) (x n : Int), Gr mu0 F H F5 G8 → thr M R S (h0 ++ h1) row ri = .fin tg ((h.put s' h.far r' h.ri).h0 ++ (h.put s' h.far r' h.ri).h1) r' x n → ∀ c, G8 c = none → ∀ u, upd G8 c (.tup ((h.put s' h.far r' h.ri).h0.map V.int ++ (h.put s' h.far r' h.ri).h1.map V.int)) u = none →
            Q (.ref u) (upd (upd G8 c (.tup ((h.put s' h.far r' h.ri).h0.map V.int ++ (h.put s' h.far r' h.ri).h1.map V.int))) u (.tup [.str tg.x, .ref c, .int r', .int x, .int n])) := by
          intro G8 tg x n g8 e c nc u nu
          have g9 := g8.new (o := .tup ((h.put s' h.far r' h.ri).h0.map V.int ++ (h.put s' h.far r' h.ri).h1.map V.int)) nc
          have n9 : (upd F5 c (.tup ((h.put s' h.far r' h.ri).h0.map V.int ++ (h.put s' h.far r' h.ri).h1.map V.int))) u = none := g9.fh.free nu
          refine q _ _ (.ref u) (g9.new (o := .tup [.str tg.x, .ref c, .int r', .int x, .int n]) nu) ?_
          rw [e]
          refine ⟨u, c, rfl, upd_same, ?_⟩
          rw [List.map_append]
          exact ln n9 upd_same
        have lens : (h.put s' h.far r' h.ri).h0.length = L ∧ (h.put s' h.far r' h.ri).h1.length = L := by
          have ls : s'.length = L := by
            obtain ⟨i, c, dd, z1, z2, _⟩ := thr_fin et
            have okc := tj_ok hM i _ c (ok.st L1) z1
            rcases word_of z2 with rfl | rfl
            · rw [(bn_emb_end (far := false) (g := []) okc z2).2.1]; exact okc.len
            · exact (bn_emb_out (far := false) (g := h.ot) hM okc (by rw [ok.ot.1]; exact L1) z2).2.1
          show (if h.far then h.h0 else s').length = L ∧ (if h.far then s' else h.h1).length = L
          cases h.far
          · exact ⟨ls, ok.l1⟩
          · exact ⟨ok.l0, ls⟩
        have ne0 : (h.put s' h.far r' h.ri).h0.map V.int ≠ [] := fun z => by have := lens.1; rw [← List.length_map (f := V.int), z] at this; simp at this; omega
        have ne1 : (h.put s' h.far r' h.ri).h1.map V.int ≠ [] := fun z => by have := lens.2; rw [← List.length_map (f := V.int), z] at this; simp at this; omega
        have lsz : ((h.put s' h.far r' h.ri).h0.map V.int).length + ((h.put s' h.far r' h.ri).h1.map V.int).length ≤ sizeLine := by rw [List.length_map, List.length_map, lens.1, lens.2]; exact le_size (by omega)
        have z0 := f0 h.far r' h.ri
        have z1 := f1 h.far r' h.ri
        rcases hw with rfl | rfl
        · obtain ⟨i, c, t1, t2, t3⟩ := hv_end hM L1 ok et tk
          refine ⟨_, rfl, r, _, _, _, rfl, rfl, SqT.of hr7, atI_nat (j := 0) rfl, rfl, _, rfl, ifT (decide_eq_true rfl) ?_⟩
          refine ⟨_, rfl, hl, _, _, _, rfl, rfl, SqL.of w7.h, atI_nat (j := 0) rfl, _, rfl, hl, _, _, _, rfl, rfl, SqL.of w7.h, atI_nat (j := 1) rfl, catA_new (SqT.of (g7.fh _ _ z0)) (SqT.of (g7.fh _ _ z1)) lsz ne0 ne1 fun c nc => ?_⟩
          refine ⟨_, rfl, _, rfl, _, rfl, _, _, rfl, rfl, .inr ⟨by omega, by omega⟩, _, rfl, r, _, _, _, rfl, rfl, SqT.of (ln nc hr7), atI_nat (j := 3) rfl, _, _, rfl, rfl, _, rfl, five_le, fun u nu => ?_⟩
          refine fin H7 tEnd _ _ g7 ?_ c nc u nu
          have := thr_of hM okW lW r0 r1 t1 t2
          rw [this]
          congr 1
          · unfold ziI; split <;> omega
          · omega
        · obtain ⟨ww, i, t1, t2, t3⟩ := hv_out hM L1 ok et tk
          refine ⟨_, rfl, r, _, _, _, rfl, rfl, SqT.of hr7, atI_nat (j := 0) rfl, rfl, _, rfl, ifF (by decide +kernel) ?_⟩
          refine ⟨_, rfl, _, rfl, r, _, _, _, rfl, rfl, SqT.of hr7, atI_nat (j := 3) rfl, _, _, rfl, rfl, two_le, fun e ne => ?_⟩
          have g8 := g7.own (o := .tup [.int 0, .int 1]) ne
          have w8 := w7.own (u := .tup [.int 0, .int 1]) ne
          have d8 := d7.own (u := .tup [.int 0, .int 1]) ne
          have he : (upd H7 e (.tup [.int 0, .int 1])) e = some (.tup [.int 0, .int 1]) := upd_same
          generalize upd H7 e (.tup [.int 0, .int 1]) = H8 at g8 w8 d8 he ⊢
          have hr8 := g8.fh _ _ hr
          refine ⟨e, _, rfl, .inr (SqT.of he), rfl, rfl, _, rfl, ?_⟩
          by_cases z : h.far = decide (x' = 1)
          · refine ifT ?_ ?_
            · rw [z]
              rcases ww with rfl | rfl <;> rfl
            · obtain ⟨c, t4, t5⟩ := t2 z
              refine ⟨_, rfl, hl, _, _, _, rfl, rfl, SqL.of w8.h, atI_nat (j := 0) rfl, _, rfl, hl, _, _, _, rfl, rfl, SqL.of w8.h, atI_nat (j := 1) rfl, catA_new (SqT.of (g8.fh _ _ z0)) (SqT.of (g8.fh _ _ z1)) lsz ne0 ne1 fun c nc => ?_⟩
              refine ⟨_, rfl, _, rfl, r, _, _, _, rfl, rfl, SqT.of (ln nc hr8), atI_nat (j := 3) rfl, _, rfl, five_le, fun u nu => ?_⟩
              refine fin H8 tOut _ _ g8 ?_ c nc u nu
              have := thr_of hM okW lW r0 r1 t4 t5
              rw [this]
              congr 1; omega
          · refine ifF ?_ ?_
            · have z : h.far = !decide (x' = 1) := bool_ne z
              rw [z]
              rcases ww with rfl | rfl <;> rfl
            · obtain ⟨t4, t5⟩ := t3 z
              refine ⟨_, rfl, _, rfl, r, _, _, _, rfl, rfl, SqT.of hr8, atI_nat (j := 3) rfl, _, _, rfl, rfl, ?_⟩
              refine ⟨_, rfl, r, _, _, _, rfl, rfl, SqT.of hr8, atI_nat (j := 3) rfl, _, _, rfl, rfl, ?_⟩
              have ez : ziI h.far + x' = ziI (!h.far) ∧ 0 - x' = sdI (!decide (x' = 1)) := by
                have z : h.far = !decide (x' = 1) := bool_ne z
                rw [z]
                rcases ww with rfl | rfl <;> decide
              refine ⟨n - 1, by omega, F5, k + (i + 1), h.put s' (!h.far) r' (!decide (x' = 1)), sn ++ [h], xs ++ [.ref y], _, _, some (.ref r), ?_, g8, w8, f0 _ _ _, f1 _ _ _, d8, al6, t4, hsn' _ (by omega), nd', t5, by rw [List.length_append]; show n - 1 + (sn.length + 1) = 4097; omega⟩
              show [some m, some (V.ref b), some (V.int r'), some (V.int (0 - x')), some (V.int L), some (V.ref hl), some (V.int (ziI h.far + x')), some (V.int ((k : Int) + m')), some (V.ref D), some (V.ref r)] = [some m, some (V.ref b), some (V.int r'), some (V.int (sdI (!decide (x' = 1)))), some (V.int L), some (V.ref hl), some (V.int (ziI (!h.far))), some (V.int ((k + (i + 1) : Nat) : Int)), some (V.ref D), some (V.ref r)]
              rw [ez.1, ez.2, t1, show ((k + (i + 1) : Nat) : Int) = (k : Int) + ((i : Int) + 1) by omega]
theorem SqL.up {K : PySem.W.Frag} {H H' : Hp} {a : Addr} {xs : List V} (h : SqL K H a xs) (s : Same H H') : SqL K H' a xs :=
  h.elim (fun h => .inl (h.elim (fun h => .inl (s _ _ h)) fun ⟨o, h⟩ => .inr ⟨o, s _ _ h⟩)) fun h => .inr h
def sp_law (K : PySem.W.Frag) : Sp := fun vs H Q _ => ∃ (a : Addr) (ns : List Int), vs = [.ref a] ∧ SqL K H a (ns.map V.int) ∧ ns.length ≤ 63 ∧ ∀ H', Q (.bl true) H'
theorem ok_law (t : Tx K mg) : FnOk P w K mg base CX0 6 t.a_law t.fd_law ["_law_script"] (sp_law K) := by
  refine t.F_law.ok sc_law (fun vs H Q E h => ?_) (fun cdv A outer s H vs Q E hr h => ?_)
  · obtain ⟨a, ns, rfl, _⟩ := h
    rfl
  · obtain ⟨l, ns, rfl, hS, hn, q⟩ := h
    refine ⟨_, (pss_cons (ps_for PassesOwn.never rfl (pi_range1 (by rfl) t.n_range (pa_cons pe_int pa_nil)) (pg_name (i := 1) sc_law.nd rfl (by first | exact Or.inl rfl | exact Or.inr rfl)) (pss_cons (ps_set (i := 2) sc_law.nd rfl (by first | exact Or.inl rfl | exact Or.inr rfl) (pe_call (ok_L_purse t) (hr.mono (by decide)) (by rfl) t.m_L_purse t.F_L_purse.kp t.b_L_purse .nil pass0 (pa_cons (pv 0) (pa_cons (pv 1) pa_nil))))
      (pss_cons (ps_set (i := 3) sc_law.nd rfl (by first | exact Or.inl rfl | exact Or.inr rfl) (pe_call (ok_L_machine t) (hr.mono (by decide)) (by rfl) t.m_L_machine t.F_L_machine.kp t.b_L_machine .nil pass0 (pa_cons (pv 2) pa_nil)))
      (pss_cons (ps_set (i := 4) sc_law.nd rfl (by first | exact Or.inl rfl | exact Or.inr rfl) (pe_call (ok_L_mirrored t) (hr.mono (by decide)) (by rfl) t.m_L_mirrored t.F_L_mirrored.kp t.b_L_mirrored .nil pass0 (pa_cons (pv 3) pa_nil)))
      (pss_one (ps_for PassesOwn.never rfl (pi_range1 (by rfl) t.n_range (pa_cons pe_int pa_nil)) (pg_name (i := 5) sc_law.nd rfl (by first | exact Or.inl rfl | exact Or.inr rfl)) (pss_cons (ps_set (i := 6) sc_law.nd rfl (by first | exact Or.inl rfl | exact Or.inr rfl) (pe_ix ix_list (pe_lst (pa_cons pe_int (pa_cons pe_int pa_nil))) (pe_call (ok_L_draw t) (hr.mono (by decide)) (by rfl) t.m_L_draw t.F_L_draw.kp t.b_L_draw .nil pass0 (pa_cons (pv 2) (pa_cons pe_int pa_nil))) (fun _ _ => rfl)))
      (pss_cons (ps_set (i := 7) sc_law.nd rfl (by first | exact Or.inl rfl | exact Or.inr rfl) (pe_callTy (T := "tuple") call_tupQ (by rfl) t.n_tuple (by decide +kernel) (pa_cons (pe_lc (own := [("_law_k", 8)]) (g := gName 8) (tt := tYes) rfl sc_law.nd (pi_range1 (by rfl) t.n_range (pa_cons (pv 6) pa_nil)) (blkOk_by (N := N_law) (sc := defScope s_law) (by decide +kernel)) (fun _ _ _ _ _ => (pg_name (i := 8) sc_law.nd rfl (by first | exact Or.inl rfl | exact Or.inr rfl))) (fun _ _ _ _ _ => pts_nil) (fun _ _ _ _ _ => (pe_call (ok_L_draw t) (hr.mono (by decide)) (by rfl) t.m_L_draw t.F_L_draw.kp t.b_L_draw .nil pass0 (pa_cons (pv 2) (pa_cons (pe_callB (id := "len") (crK (K := K) (r := rLenQ) rfl call_lenQ) (by rfl) t.n_len (by decide +kernel) (pa_cons (pe_ix (ixK (K := K) (r := rIxL) rfl ix_list) (pv 3) pe_int (fun _ _ => rfl)) pa_nil)) pa_nil))))) pa_nil)))
      (pss_cons (ps_set (i := 9) sc_law.nd rfl (by first | exact Or.inl rfl | exact Or.inr rfl) (pe_call (ok_L_draw t) (hr.mono (by decide)) (by rfl) t.m_L_draw t.F_L_draw.kp t.b_L_draw .nil pass0 (pa_cons (pv 2) (pa_cons (pe_callB (id := "len") call_lenQ (by rfl) t.n_len (by decide +kernel) (pa_cons (pv 3) pa_nil)) pa_nil))))
      (pss_cons (ps_set (i := 10) sc_law.nd rfl (by first | exact Or.inl rfl | exact Or.inr rfl) (pe_op op_sub (pe_op op_mul pe_int (pe_call (ok_L_draw t) (hr.mono (by decide)) (by rfl) t.m_L_draw t.F_L_draw.kp t.b_L_draw .nil pass0 (pa_cons (pv 2) (pa_cons pe_int pa_nil)))) pe_int))
      (pss_cons (ps_set (i := 11) sc_law.nd rfl (by first | exact Or.inl rfl | exact Or.inr rfl) (pe_call (ok_through t) (hr.mono (by decide)) (by rfl) t.m_through t.F_through.kp t.b_through .nil pass0 (pa_cons (pv 3) (pa_cons (pv 7) (pa_cons (pv 9) (pa_cons (pv 10) pa_nil))))))
      (pss_cons (ps_if (pt_cmpR (op_neD hr.units) (pv 11) (pe_call (ok_L_halves t) (hr.mono (by decide)) (by rfl) t.m_L_halves t.F_L_halves.kp t.b_L_halves .nil pass0 (pa_cons (pv 3) (pa_cons (pv 7) (pa_cons (pv 9) (pa_cons (pv 10) pa_nil))))) (nomark _)) (pss_one (ps_ret pe_bl)) pss_nil)
      (pss_one (ps_if (pt_cmpR (op_neD hr.units) (pe_call (ok_through t) (hr.mono (by decide)) (by rfl) t.m_through t.F_through.kp t.b_through .nil pass0 (pa_cons (pv 4) (pa_cons (pe_revT (pv 7)) (pa_cons (pv 9) (pa_cons (pe_op op_sub pe_int (pv 10)) pa_nil))))) (pe_call (ok_L_turned_about t) (hr.mono (by decide)) (by rfl) t.m_L_turned_about t.F_L_turned_about.kp t.b_L_turned_about .nil pass0 (pa_cons (pv 11) pa_nil)) (nomark _)) (pss_one (ps_ret pe_bl)) pss_nil))))))))))))))
      (pss_one (ps_ret pe_bl))), ?_⟩
    refine ⟨8, rfl, by decide, by decide, for_range (lo := 0) (n := 8) (fun i σ G => ∃ (v1 v2 v3 v4 v5 v6 v7 v8 v9 v10 v11 : Option V), σ = [some (.ref l), v1, v2, v3, v4, v5, v6, v7, v8, v9, v10, v11] ∧ Same H G)
      ⟨none, none, none, none, none, none, none, none, none, none, none, rfl, Same.refl H⟩ ?_ ?_⟩
    · rintro i σ G hi ⟨v1, v2, v3, v4, v5, v6, v7, v8, v9, v10, v11, rfl, sG⟩
      have ei : ((0 : Int) + (i : Int)) = (i : Int) := by omega
      rw [ei]
      refine ⟨_, rfl, _, rfl, l, ns, i, rfl, SqL.up hS sG, by omega, fun p G1 s1 np hp1 => ?_⟩
      refine ⟨_, rfl, G, p, 10000, rfl, s1, np, hp1, by decide, fun F2 G2 m M R S g2 hp2 hM hm => ?_⟩
      have r1 := hM.r1
      have r4 := hM.r4
      have S2 := hM.s2
      have S4 := hM.s4
      refine ⟨_, rfl, F2, m, M, R, S, rfl, g2.fh, hm, hM, fun F3 G3 bk g3 hbk => ?_⟩
      have g23 := g2.trans g3.of0
      have hm3 := hm.up g3.ff
      have hp3 := hp2.gr g3 (fun z => z)
      clear g2 g3 hp2 hm
      refine ⟨6, rfl, by decide, by decide, for_range (lo := 0) (n := 6) (fun j σ T => ∃ (F4 : Hp) (b4 : Int) (v5 v6 v7 v8 v9 v10 v11 : Option V), σ = [some (.ref l), some (.int i), some (.ref p), some m, some bk, v5, v6, v7, v8, v9, v10, v11] ∧ Gr (muP p) G G1 F4 T ∧ PuAt T p b4 ∧ b4 ≤ 11000 + 50 * j ∧ Is F4 m M ∧ Is F4 bk (mirM M))
        ⟨F3, _, v5, v6, v7, v8, v9, v10, v11, rfl, g23, hp3, by omega, hm3, hbk⟩ ?_ ?_⟩
      · rintro j σ T hj ⟨F4, b4, v5, v6, v7, v8, v9, v10, v11, rfl, g, hp, hb4, hm, hbk⟩
        have fp := hp1.f np g
        obtain ⟨am, rs, rfl, ham, hrs⟩ := id hm
        have lrs : rs.length = R := hrs.1.trans hM.len
        have l0 : 0 < rs.length := by omega
        obtain ⟨row0, hM0, a0, es0, er0, ha0, hes0⟩ := hrs.get' (List.getElem?_eq_getElem l0)
        have ls0 : es0.length = S := hes0.1.trans (hM.row _ (List.mem_of_getElem? hM0))
        have hx0 : rs[0]? = some (.ref a0) := (List.getElem?_eq_getElem l0).trans (congrArg some er0)
        -- how many
        refine ⟨two_le, fun l2 nl => ?_⟩
        have k1 := (Gr.refl (mu := muP p) g.fh).own (o := .lst [.int 2, .int 4]) nl
        have hl : (upd T l2 (.lst [.int 2, .int 4])) l2 = some (.lst [.int 2, .int 4]) := upd_same
        have hp5 := hp.ln (o := .lst [.int 2, .int 4]) nl
        have pl := hp.ne nl
        generalize upd T l2 (.lst [.int 2, .int 4]) = T1 at k1 hl hp5 ⊢
        refine ⟨_, rfl, F4, p, 2, b4, rfl, k1.fh, fp, hp5, by omega, by decide, by decide, fun d1 T2 d10 d11 k2 hp6 => ?_⟩
        have ef : ∃ L : Nat, atI [V.int 2, V.int 4] d1 = some (.int (L + L : Nat)) ∧ 1 ≤ L ∧ L ≤ 2 := by
          rcases (by omega : d1 = 0 ∨ d1 = 1) with rfl | rfl
          · exact ⟨1, rfl, by decide, by decide⟩
          · exact ⟨2, rfl, by decide, by decide⟩
        obtain ⟨L, ef, L1, L2⟩ := ef
        refine ⟨l2, _, _, _, rfl, rfl, SqL.of (k2.fr _ _ hl (Ne.symm pl)), ef, ?_⟩
        have k3 := k1.trans k2
        clear k1 k2 hl
        -- the block
        refine ⟨_, rfl, ((L + L : Nat) : Int), rfl, by omega, by omega, fun D nD => lc_range (lo := 0) (n := (((L + L : Nat) : Int)).toNat) (fun k T3 => ∃ (xs : List Int) (b5 : Int), Gr (muP p) F4 T F4 T3 ∧ PuAt T3 p b5 ∧ b5 ≤ b4 + 2 + 2 * k ∧ Ow T F4 T3 D (.lst (xs.map V.int)) ∧ xs.length = k ∧ SOk S xs)
          ⟨[], _, k3.own nD, hp6.ln nD, by omega, Ow.mk1 k3 nD, rfl, fun x z => nomatch z⟩ ?_ ?_⟩
        · rintro k T3 hk ⟨xs, b5, k4, hp7, hb5, w, lx, sx⟩
          have pD : p ≠ D := fun e => by have := w.n; rw [← e] at this; obtain ⟨o, ho⟩ := hp.ex; rw [ho] at this; cases this
          refine ⟨rfl, yes ⟨_, rfl, _, rfl, am, rs, _, _, rfl, rfl, SqL.of (k4.fh _ _ ham), atI_nat (j := 0) hx0, a0, es0, rfl, .inl (SqL.of (k4.fh _ _ ha0)), F4, p, es0.length, b5, rfl, k4.fh, fp, hp7, by omega, by omega, by omega, fun d2 T4 d20 d21 k5 hp8 => ?_⟩⟩
          have w5 := w.call k5 (Ne.symm pD)
          refine ⟨xs.map V.int, w5.h, by rw [List.length_map]; exact lt_size (by omega), xs ++ [d2], _, ?_, hp8.off pD, by omega, ?_, by rw [List.length_append, lx]; rfl, sx.app fun x z => by rw [List.mem_singleton.mp z]; omega⟩
          · exact (k4.trans k5).set w5.f (.inl w5.n)
          · rw [List.map_append]; exact w5.set
        · rintro T3 ⟨xs, b5, k4, hp7, hb5, w, lx, sx⟩
          have lx : xs.length = L + L := by rw [lx]; exact Int.toNat_natCast _
          refine ⟨D, _, rfl, .inl ⟨SqL.of w.h, fun b nb => ?_⟩⟩
          have k5 := k4.new (o := .tup (xs.map V.int)) nb
          have hp8 := hp7.ln (o := .tup (xs.map V.int)) nb
          have hb : (upd F4 b (.tup (xs.map V.int))) b = some (.tup (xs.map V.int)) := upd_same
          have fp5 := hp.f fp k5
          generalize upd F4 b (.tup (xs.map V.int)) = F5 at k5 hb fp5
          generalize upd T3 b (.tup (xs.map V.int)) = T5 at k5 hp8 ⊢
          -- the row, the side
          refine ⟨_, rfl, _, rfl, am, rs, rfl, .inl (SqL.of (k5.fh _ _ (k5.ff _ _ ham))), F5, p, (rs.length : Int), b5, rfl, k5.fh, fp5, hp8, by omega, by omega, by omega, fun row T6 r0 rr k6 hp9 => ?_⟩
          refine ⟨_, rfl, F5, p, 2, _, rfl, k6.fh, fp5, hp9, by omega, by decide, by decide, fun d3 T7 d30 d31 k7 hp10 => ⟨_, _, rfl, rfl, .inl ⟨by decide, by decide⟩, _, _, rfl, rfl, ?_⟩⟩
          have es : ∃ ri : Bool, 2 * d3 - 1 = sdI ri := by
            rcases (by omega : d3 = 0 ∨ d3 = 1) with rfl | rfl
            · exact ⟨false, rfl⟩
            · exact ⟨true, rfl⟩
          obtain ⟨ri, es⟩ := es
          dsimp only
          rw [es]
          have k8 := (k5.trans k6).trans k7
          have hm8 := hm.up k8.ff
          have hbk8 := hbk.up k8.ff
          -- through
          refine ⟨_, rfl, _, rfl, _, rfl, _, rfl, F5, .ref am, b, M, R, S, xs, row, sdI ri, rfl, k8.fh, hm8, hM, hb, sx, by omega, by omega, r0, by omega, fun F6 T8 v i6 i6' => ?_⟩
          rw [sdI_dec] at i6'
          have exs : xs = xs.take L ++ xs.drop L := (List.take_append_drop L xs).symm
          refine ⟨_, rfl, _, rfl, _, rfl, _, rfl, _, rfl, F6, .ref am, b, M, R, S, L, xs.take L, xs.drop L, row, ri, rfl, i6.fh, hm8.up i6.ff, hM, by rw [← exs]; exact i6.ff _ _ hb, by rw [List.length_take]; omega, by rw [List.length_drop]; omega, L1, L2, fun x z => sx x (List.mem_of_mem_take z), fun x z => sx x (List.mem_of_mem_drop z), r0, by omega, fun F7 T9 u i7 i7' => ?_⟩
          rw [← exs] at i7'
          refine ne_dat (a := thr M R S xs row ri) (b := thr M R S xs row ri) ((i6'.up i7.ff).up i7.fh) (i7'.up i7.fh) ⟨_, rfl, ifF (by rw [decide_eq_true rfl]; rfl) ?_⟩
          -- turned about
          have hb7 := i7.ff _ _ (i6.ff _ _ hb)
          refine ⟨_, rfl, _, rfl, b, _, rfl, SqT.of (i7.fh _ _ hb7), fun c nc => ⟨_, rfl, _, rfl, _, _, rfl, rfl, ?_⟩⟩
          have i8 := i7.new (o := .tup (xs.map V.int).reverse) nc
          have hc : (upd F7 c (.tup (xs.map V.int).reverse)) c = some (.tup (xs.map V.int).reverse) := upd_same
          have s8 : Same F7 (upd F7 c (.tup (xs.map V.int).reverse)) := sm_new (Same.refl F7) (i7.fh.free nc)
          generalize upd F7 c (.tup (xs.map V.int).reverse) = F8 at i8 hc s8
          generalize upd T9 c (.tup (xs.map V.int).reverse) = T10 at i8 ⊢
          refine ⟨F8, bk, c, mirM M, R, S, xs.reverse, row, 0 - sdI ri, rfl, i8.fh, (hbk8.up i6.ff).up i8.ff, hM.mir, by rw [List.map_reverse]; exact hc, sx.rev, by rw [List.length_reverse]; omega, by rw [List.length_reverse]; omega, r0, by omega, fun F9 T11 y i9 i9' => ?_⟩
          have ed : decide (0 - sdI ri = 1) = !ri := by cases ri <;> decide
          rw [ed, thr_rev hM sx (by omega) r0 (by omega)] at i9'
          have i10 := i8.trans i9
          refine ⟨_, rfl, F9, v, thr M R S xs row ri, rfl, i9.fh, i6'.up i10.ff, fun w s r y n e => ?_, fun F10 T12 z i11 i11' => ?_⟩
          · obtain ⟨i, c, d, t1, t2, _⟩ := thr_fin e
            have ok0 := st0_ok (R := R) (row := row) (far := ri) sx (by omega) r0 (by omega)
            have okc := tj_ok hM i _ c ok0 t1
            refine ⟨word_of t2, ?_⟩
            rcases word_of t2 with rfl | rfl
            · rw [(bn_emb_end (far := false) (g := []) okc t2).2.1, okc.len]; omega
            · rw [(bn_emb_out (far := false) (g := [0]) hM okc (by decide) t2).2.1]; omega
          · refine ne_dat (a := (thr M R S xs row ri).rev) (b := (thr M R S xs row ri).rev) ((i9'.up i11.ff).up i11.fh) (i11'.up i11.fh) ⟨_, rfl, ifF (by rw [decide_eq_true rfl]; rfl) ?_⟩
            have i12 := i10.trans i11
            have gg := ((g.trans k8).trans i6.of0).trans i12.of0
            have i13 := i6.trans i12
            exact ⟨F10, _, _, _, _, _, _, _, _, rfl, gg, hp10.gr i13 (fun z => z), by omega, hm8.up i13.ff, hbk8.up i13.ff⟩
      · rintro σ T ⟨F4, b4, v5, v6, v7, v8, v9, v10, v11, rfl, g, _⟩
        exact ⟨_, _, _, _, _, _, _, _, _, _, _, rfl, fun c o h => g.fh c o (g.ff c o (sG c o h))⟩
    · rintro σ G _
      exact q G

end
def all_tx {K : PySem.W.Frag} {h : Heap} {mg : Str → Option Value} {a_L_at a_L_purse a_L_mixed a_L_draw a_L_entry a_L_machine a_L_turned a_L_mirrored a_is_entry a_is_machine a_must_machine a_most_setups a_through a_L_halves a_L_turned_about a_law C_NoMachine : Addr} {od_L_at an_L_at od_L_purse an_L_purse od_L_mixed an_L_mixed od_L_draw an_L_draw od_L_entry an_L_entry od_L_machine an_L_machine od_L_turned an_L_turned od_L_mirrored an_L_mirrored od_is_entry an_is_entry od_is_machine an_is_machine od_must_machine an_must_machine od_most_setups an_most_setups od_through an_through od_L_halves an_L_halves od_L_turned_about an_L_turned_about od_law an_law : Option Addr} {sl_L_at sl_L_purse sl_L_mixed sl_L_draw sl_L_entry sl_L_machine sl_L_turned sl_L_mirrored sl_is_entry sl_is_machine sl_must_machine sl_most_setups sl_through sl_L_halves sl_L_turned_about sl_law : Array (Option Value)} {oc_L_at kV_L_at dc_L_at pm_L_at cd_L_at ct_L_at oc_L_purse kV_L_purse dc_L_purse pm_L_purse cd_L_purse ct_L_purse oc_L_mixed kV_L_mixed dc_L_mixed pm_L_mixed cd_L_mixed ct_L_mixed oc_L_draw kV_L_draw dc_L_draw pm_L_draw cd_L_draw ct_L_draw oc_L_entry kV_L_entry dc_L_entry pm_L_entry cd_L_entry ct_L_entry oc_L_machine kV_L_machine dc_L_machine pm_L_machine cd_L_machine ct_L_machine oc_L_turned kV_L_turned dc_L_turned pm_L_turned cd_L_turned ct_L_turned oc_L_mirrored kV_L_mirrored dc_L_mirrored pm_L_mirrored cd_L_mirrored ct_L_mirrored oc_is_entry kV_is_entry dc_is_entry pm_is_entry cd_is_entry ct_is_entry oc_is_machine kV_is_machine dc_is_machine pm_is_machine cd_is_machine ct_is_machine oc_must_machine kV_must_machine dc_must_machine pm_must_machine cd_must_machine ct_must_machine oc_most_setups kV_most_setups dc_most_setups pm_most_setups cd_most_setups ct_most_setups oc_through kV_through dc_through pm_through cd_through ct_through oc_L_halves kV_L_halves dc_L_halves pm_L_halves cd_L_halves ct_L_halves oc_L_turned_about kV_L_turned_about dc_L_turned_about pm_L_turned_about cd_L_turned_about ct_L_turned_about oc_law kV_law dc_law pm_law cd_law ct_law : Value} {tk_MOST_ROWS tk_MOST_SIGNS : Tok} (X : K.In h) (G : h.Ns mainGlobals mg)
    (n_NoMachine : PySem.W.nsIn K mainGlobals "NoMachine" = some (some (.ref C_NoMachine)))
    (n_L_at : PySem.W.nsIn K mainGlobals "_law_at" = some (some (.ref a_L_at)))
    (l_L_at : K.lookup a_L_at = some ⟨oc_L_at, od_L_at, .func (PySem.W.fnOf "_law_at" "_law_at" (defArgs s_L_at) (defBody s_L_at) (defScope s_L_at) .none kV_L_at dc_L_at pm_L_at an_L_at cd_L_at ct_L_at), sl_L_at⟩)
    (c_L_at : PySem.W.codeIn K cd_L_at "_law_at" = true)
    (k_L_at : PySem.W.keepIn K (.ref a_L_at) = true)
    (n_L_purse : PySem.W.nsIn K mainGlobals "_law_purse" = some (some (.ref a_L_purse)))
    (l_L_purse : K.lookup a_L_purse = some ⟨oc_L_purse, od_L_purse, .func (PySem.W.fnOf "_law_purse" "_law_purse" (defArgs s_L_purse) (defBody s_L_purse) (defScope s_L_purse) .none kV_L_purse dc_L_purse pm_L_purse an_L_purse cd_L_purse ct_L_purse), sl_L_purse⟩)
    (c_L_purse : PySem.W.codeIn K cd_L_purse "_law_purse" = true)
    (k_L_purse : PySem.W.keepIn K (.ref a_L_purse) = true)
    (n_L_mixed : PySem.W.nsIn K mainGlobals "_law_mixed" = some (some (.ref a_L_mixed)))
    (l_L_mixed : K.lookup a_L_mixed = some ⟨oc_L_mixed, od_L_mixed, .func (PySem.W.fnOf "_law_mixed" "_law_mixed" (defArgs s_L_mixed) (defBody s_L_mixed) (defScope s_L_mixed) .none kV_L_mixed dc_L_mixed pm_L_mixed an_L_mixed cd_L_mixed ct_L_mixed), sl_L_mixed⟩)
    (c_L_mixed : PySem.W.codeIn K cd_L_mixed "_law_mixed" = true)
    (k_L_mixed : PySem.W.keepIn K (.ref a_L_mixed) = true)
    (n_L_draw : PySem.W.nsIn K mainGlobals "_law_draw" = some (some (.ref a_L_draw)))
    (l_L_draw : K.lookup a_L_draw = some ⟨oc_L_draw, od_L_draw, .func (PySem.W.fnOf "_law_draw" "_law_draw" (defArgs s_L_draw) (defBody s_L_draw) (defScope s_L_draw) .none kV_L_draw dc_L_draw pm_L_draw an_L_draw cd_L_draw ct_L_draw), sl_L_draw⟩)
    (c_L_draw : PySem.W.codeIn K cd_L_draw "_law_draw" = true)
    (k_L_draw : PySem.W.keepIn K (.ref a_L_draw) = true)
    (n_L_entry : PySem.W.nsIn K mainGlobals "_law_entry" = some (some (.ref a_L_entry)))
    (l_L_entry : K.lookup a_L_entry = some ⟨oc_L_entry, od_L_entry, .func (PySem.W.fnOf "_law_entry" "_law_entry" (defArgs s_L_entry) (defBody s_L_entry) (defScope s_L_entry) .none kV_L_entry dc_L_entry pm_L_entry an_L_entry cd_L_entry ct_L_entry), sl_L_entry⟩)
    (c_L_entry : PySem.W.codeIn K cd_L_entry "_law_entry" = true)
    (k_L_entry : PySem.W.keepIn K (.ref a_L_entry) = true)
    (n_L_machine : PySem.W.nsIn K mainGlobals "_law_machine" = some (some (.ref a_L_machine)))
    (l_L_machine : K.lookup a_L_machine = some ⟨oc_L_machine, od_L_machine, .func (PySem.W.fnOf "_law_machine" "_law_machine" (defArgs s_L_machine) (defBody s_L_machine) (defScope s_L_machine) .none kV_L_machine dc_L_machine pm_L_machine an_L_machine cd_L_machine ct_L_machine), sl_L_machine⟩)
    (c_L_machine : PySem.W.codeIn K cd_L_machine "_law_machine" = true)
    (k_L_machine : PySem.W.keepIn K (.ref a_L_machine) = true)
    (n_L_turned : PySem.W.nsIn K mainGlobals "_law_turned" = some (some (.ref a_L_turned)))
    (l_L_turned : K.lookup a_L_turned = some ⟨oc_L_turned, od_L_turned, .func (PySem.W.fnOf "_law_turned" "_law_turned" (defArgs s_L_turned) (defBody s_L_turned) (defScope s_L_turned) .none kV_L_turned dc_L_turned pm_L_turned an_L_turned cd_L_turned ct_L_turned), sl_L_turned⟩)
    (c_L_turned : PySem.W.codeIn K cd_L_turned "_law_turned" = true)
    (k_L_turned : PySem.W.keepIn K (.ref a_L_turned) = true)
    (n_L_mirrored : PySem.W.nsIn K mainGlobals "_law_mirrored" = some (some (.ref a_L_mirrored)))
    (l_L_mirrored : K.lookup a_L_mirrored = some ⟨oc_L_mirrored, od_L_mirrored, .func (PySem.W.fnOf "_law_mirrored" "_law_mirrored" (defArgs s_L_mirrored) (defBody s_L_mirrored) (defScope s_L_mirrored) .none kV_L_mirrored dc_L_mirrored pm_L_mirrored an_L_mirrored cd_L_mirrored ct_L_mirrored), sl_L_mirrored⟩)
    (c_L_mirrored : PySem.W.codeIn K cd_L_mirrored "_law_mirrored" = true)
    (k_L_mirrored : PySem.W.keepIn K (.ref a_L_mirrored) = true)
    (n_is_entry : PySem.W.nsIn K mainGlobals "is_entry" = some (some (.ref a_is_entry)))
    (l_is_entry : K.lookup a_is_entry = some ⟨oc_is_entry, od_is_entry, .func (PySem.W.fnOf "is_entry" "is_entry" (defArgs s_is_entry) (defBody s_is_entry) (defScope s_is_entry) .none kV_is_entry dc_is_entry pm_is_entry an_is_entry cd_is_entry ct_is_entry), sl_is_entry⟩)
    (c_is_entry : PySem.W.codeIn K cd_is_entry "is_entry" = true)
    (k_is_entry : PySem.W.keepIn K (.ref a_is_entry) = true)
    (n_is_machine : PySem.W.nsIn K mainGlobals "is_machine" = some (some (.ref a_is_machine)))
    (l_is_machine : K.lookup a_is_machine = some ⟨oc_is_machine, od_is_machine, .func (PySem.W.fnOf "is_machine" "is_machine" (defArgs s_is_machine) (defBody s_is_machine) (defScope s_is_machine) .none kV_is_machine dc_is_machine pm_is_machine an_is_machine cd_is_machine ct_is_machine), sl_is_machine⟩)
    (c_is_machine : PySem.W.codeIn K cd_is_machine "is_machine" = true)
    (k_is_machine : PySem.W.keepIn K (.ref a_is_machine) = true)
    (n_must_machine : PySem.W.nsIn K mainGlobals "must_machine" = some (some (.ref a_must_machine)))
    (l_must_machine : K.lookup a_must_machine = some ⟨oc_must_machine, od_must_machine, .func (PySem.W.fnOf "must_machine" "must_machine" (defArgs s_must_machine) (defBody s_must_machine) (defScope s_must_machine) .none kV_must_machine dc_must_machine pm_must_machine an_must_machine cd_must_machine ct_must_machine), sl_must_machine⟩)
    (c_must_machine : PySem.W.codeIn K cd_must_machine "must_machine" = true)
    (k_must_machine : PySem.W.keepIn K (.ref a_must_machine) = true)
    (n_most_setups : PySem.W.nsIn K mainGlobals "most_setups" = some (some (.ref a_most_setups)))
    (l_most_setups : K.lookup a_most_setups = some ⟨oc_most_setups, od_most_setups, .func (PySem.W.fnOf "most_setups" "most_setups" (defArgs s_most_setups) (defBody s_most_setups) (defScope s_most_setups) .none kV_most_setups dc_most_setups pm_most_setups an_most_setups cd_most_setups ct_most_setups), sl_most_setups⟩)
    (c_most_setups : PySem.W.codeIn K cd_most_setups "most_setups" = true)
    (k_most_setups : PySem.W.keepIn K (.ref a_most_setups) = true)
    (n_through : PySem.W.nsIn K mainGlobals "through" = some (some (.ref a_through)))
    (l_through : K.lookup a_through = some ⟨oc_through, od_through, .func (PySem.W.fnOf "through" "through" (defArgs s_through) (defBody s_through) (defScope s_through) .none kV_through dc_through pm_through an_through cd_through ct_through), sl_through⟩)
    (c_through : PySem.W.codeIn K cd_through "through" = true)
    (k_through : PySem.W.keepIn K (.ref a_through) = true)
    (n_L_halves : PySem.W.nsIn K mainGlobals "_law_halves" = some (some (.ref a_L_halves)))
    (l_L_halves : K.lookup a_L_halves = some ⟨oc_L_halves, od_L_halves, .func (PySem.W.fnOf "_law_halves" "_law_halves" (defArgs s_L_halves) (defBody s_L_halves) (defScope s_L_halves) .none kV_L_halves dc_L_halves pm_L_halves an_L_halves cd_L_halves ct_L_halves), sl_L_halves⟩)
    (c_L_halves : PySem.W.codeIn K cd_L_halves "_law_halves" = true)
    (k_L_halves : PySem.W.keepIn K (.ref a_L_halves) = true)
    (n_L_turned_about : PySem.W.nsIn K mainGlobals "_law_turned_about" = some (some (.ref a_L_turned_about)))
    (l_L_turned_about : K.lookup a_L_turned_about = some ⟨oc_L_turned_about, od_L_turned_about, .func (PySem.W.fnOf "_law_turned_about" "_law_turned_about" (defArgs s_L_turned_about) (defBody s_L_turned_about) (defScope s_L_turned_about) .none kV_L_turned_about dc_L_turned_about pm_L_turned_about an_L_turned_about cd_L_turned_about ct_L_turned_about), sl_L_turned_about⟩)
    (c_L_turned_about : PySem.W.codeIn K cd_L_turned_about "_law_turned_about" = true)
    (k_L_turned_about : PySem.W.keepIn K (.ref a_L_turned_about) = true)
    (n_law : PySem.W.nsIn K mainGlobals "law" = some (some (.ref a_law)))
    (l_law : K.lookup a_law = some ⟨oc_law, od_law, .func (PySem.W.fnOf "law" "law" (defArgs s_law) (defBody s_law) (defScope s_law) .none kV_law dc_law pm_law an_law cd_law ct_law), sl_law⟩)
    (c_law : PySem.W.codeIn K cd_law "law" = true)
    (k_law : PySem.W.keepIn K (.ref a_law) = true)
    (n_MOST_ROWS : PySem.W.nsIn K mainGlobals "MOST_ROWS" = some (some (.int 4 tk_MOST_ROWS)))
    (n_MOST_SIGNS : PySem.W.nsIn K mainGlobals "MOST_SIGNS" = some (some (.int 4 tk_MOST_SIGNS)))
    (z_len : PySem.W.nsIn K mainGlobals "len" = some none)
    (z_max : PySem.W.nsIn K mainGlobals "max" = some none)
    (z_int : PySem.W.nsIn K mainGlobals "int" = some none)
    (z_range : PySem.W.nsIn K mainGlobals "range" = some none)
    (z_all : PySem.W.nsIn K mainGlobals "all" = some none)
    (z_list : PySem.W.nsIn K mainGlobals "list" = some none)
    (z_tuple : PySem.W.nsIn K mainGlobals "tuple" = some none) : Tx K mg where
  a_L_at := a_L_at
  fd_L_at := PySem.W.fnOf "_law_at" "_law_at" (defArgs s_L_at) (defBody s_L_at) (defScope s_L_at) .none kV_L_at dc_L_at pm_L_at an_L_at cd_L_at ct_L_at
  F_L_at := fun_mk l_L_at c_L_at k_L_at
  b_L_at := (fun_mk (st := s_L_at) l_L_at c_L_at k_L_at).binds (ps := ["_law_script", "_law_k"]) fun _ _ _ _ _ _ us hl => match us, hl with | [_, _], _ => rfl
  m_L_at := PySem.W.mg_of X G n_L_at
  a_L_purse := a_L_purse
  fd_L_purse := PySem.W.fnOf "_law_purse" "_law_purse" (defArgs s_L_purse) (defBody s_L_purse) (defScope s_L_purse) .none kV_L_purse dc_L_purse pm_L_purse an_L_purse cd_L_purse ct_L_purse
  F_L_purse := fun_mk l_L_purse c_L_purse k_L_purse
  b_L_purse := (fun_mk (st := s_L_purse) l_L_purse c_L_purse k_L_purse).binds (ps := ["_law_script", "_law_at_here"]) fun _ _ _ _ _ _ us hl => match us, hl with | [_, _], _ => rfl
  m_L_purse := PySem.W.mg_of X G n_L_purse
  a_L_mixed := a_L_mixed
  fd_L_mixed := PySem.W.fnOf "_law_mixed" "_law_mixed" (defArgs s_L_mixed) (defBody s_L_mixed) (defScope s_L_mixed) .none kV_L_mixed dc_L_mixed pm_L_mixed an_L_mixed cd_L_mixed ct_L_mixed
  F_L_mixed := fun_mk l_L_mixed c_L_mixed k_L_mixed
  b_L_mixed := (fun_mk (st := s_L_mixed) l_L_mixed c_L_mixed k_L_mixed).binds (ps := ["_law_cell", "_law_k"]) fun _ _ _ _ _ _ us hl => match us, hl with | [_, _], _ => rfl
  m_L_mixed := PySem.W.mg_of X G n_L_mixed
  a_L_draw := a_L_draw
  fd_L_draw := PySem.W.fnOf "_law_draw" "_law_draw" (defArgs s_L_draw) (defBody s_L_draw) (defScope s_L_draw) .none kV_L_draw dc_L_draw pm_L_draw an_L_draw cd_L_draw ct_L_draw
  F_L_draw := fun_mk l_L_draw c_L_draw k_L_draw
  b_L_draw := (fun_mk (st := s_L_draw) l_L_draw c_L_draw k_L_draw).binds (ps := ["_law_purse_here", "_law_out_of"]) fun _ _ _ _ _ _ us hl => match us, hl with | [_, _], _ => rfl
  m_L_draw := PySem.W.mg_of X G n_L_draw
  a_L_entry := a_L_entry
  fd_L_entry := PySem.W.fnOf "_law_entry" "_law_entry" (defArgs s_L_entry) (defBody s_L_entry) (defScope s_L_entry) .none kV_L_entry dc_L_entry pm_L_entry an_L_entry cd_L_entry ct_L_entry
  F_L_entry := fun_mk l_L_entry c_L_entry k_L_entry
  b_L_entry := (fun_mk (st := s_L_entry) l_L_entry c_L_entry k_L_entry).binds (ps := ["_law_purse_here", "_law_rows", "_law_signs", "_law_row", "_law_few"]) fun _ _ _ _ _ _ us hl => match us, hl with | [_, _, _, _, _], _ => rfl
  m_L_entry := PySem.W.mg_of X G n_L_entry
  a_L_machine := a_L_machine
  fd_L_machine := PySem.W.fnOf "_law_machine" "_law_machine" (defArgs s_L_machine) (defBody s_L_machine) (defScope s_L_machine) .none kV_L_machine dc_L_machine pm_L_machine an_L_machine cd_L_machine ct_L_machine
  F_L_machine := fun_mk l_L_machine c_L_machine k_L_machine
  b_L_machine := (fun_mk (st := s_L_machine) l_L_machine c_L_machine k_L_machine).binds (ps := ["_law_purse_here"]) fun _ _ _ _ _ _ us hl => match us, hl with | [_], _ => rfl
  m_L_machine := PySem.W.mg_of X G n_L_machine
  a_L_turned := a_L_turned
  fd_L_turned := PySem.W.fnOf "_law_turned" "_law_turned" (defArgs s_L_turned) (defBody s_L_turned) (defScope s_L_turned) .none kV_L_turned dc_L_turned pm_L_turned an_L_turned cd_L_turned ct_L_turned
  F_L_turned := fun_mk l_L_turned c_L_turned k_L_turned
  b_L_turned := (fun_mk (st := s_L_turned) l_L_turned c_L_turned k_L_turned).binds (ps := ["_law_entry_here"]) fun _ _ _ _ _ _ us hl => match us, hl with | [_], _ => rfl
  m_L_turned := PySem.W.mg_of X G n_L_turned
  a_L_mirrored := a_L_mirrored
  fd_L_mirrored := PySem.W.fnOf "_law_mirrored" "_law_mirrored" (defArgs s_L_mirrored) (defBody s_L_mirrored) (defScope s_L_mirrored) .none kV_L_mirrored dc_L_mirrored pm_L_mirrored an_L_mirrored cd_L_mirrored ct_L_mirrored
  F_L_mirrored := fun_mk l_L_mirrored c_L_mirrored k_L_mirrored
  b_L_mirrored := (fun_mk (st := s_L_mirrored) l_L_mirrored c_L_mirrored k_L_mirrored).binds (ps := ["_law_machine_here"]) fun _ _ _ _ _ _ us hl => match us, hl with | [_], _ => rfl
  m_L_mirrored := PySem.W.mg_of X G n_L_mirrored
  a_is_entry := a_is_entry
  fd_is_entry := PySem.W.fnOf "is_entry" "is_entry" (defArgs s_is_entry) (defBody s_is_entry) (defScope s_is_entry) .none kV_is_entry dc_is_entry pm_is_entry an_is_entry cd_is_entry ct_is_entry
  F_is_entry := fun_mk l_is_entry c_is_entry k_is_entry
  b_is_entry := (fun_mk (st := s_is_entry) l_is_entry c_is_entry k_is_entry).binds (ps := ["entry", "rows", "signs"]) fun _ _ _ _ _ _ us hl => match us, hl with | [_, _, _], _ => rfl
  m_is_entry := PySem.W.mg_of X G n_is_entry
  a_is_machine := a_is_machine
  fd_is_machine := PySem.W.fnOf "is_machine" "is_machine" (defArgs s_is_machine) (defBody s_is_machine) (defScope s_is_machine) .none kV_is_machine dc_is_machine pm_is_machine an_is_machine cd_is_machine ct_is_machine
  F_is_machine := fun_mk l_is_machine c_is_machine k_is_machine
  b_is_machine := (fun_mk (st := s_is_machine) l_is_machine c_is_machine k_is_machine).binds (ps := ["machine"]) fun _ _ _ _ _ _ us hl => match us, hl with | [_], _ => rfl
  m_is_machine := PySem.W.mg_of X G n_is_machine
  a_must_machine := a_must_machine
  fd_must_machine := PySem.W.fnOf "must_machine" "must_machine" (defArgs s_must_machine) (defBody s_must_machine) (defScope s_must_machine) .none kV_must_machine dc_must_machine pm_must_machine an_must_machine cd_must_machine ct_must_machine
  F_must_machine := fun_mk l_must_machine c_must_machine k_must_machine
  b_must_machine := (fun_mk (st := s_must_machine) l_must_machine c_must_machine k_must_machine).binds (ps := ["machine"]) fun _ _ _ _ _ _ us hl => match us, hl with | [_], _ => rfl
  m_must_machine := PySem.W.mg_of X G n_must_machine
  a_most_setups := a_most_setups
  fd_most_setups := PySem.W.fnOf "most_setups" "most_setups" (defArgs s_most_setups) (defBody s_most_setups) (defScope s_most_setups) .none kV_most_setups dc_most_setups pm_most_setups an_most_setups cd_most_setups ct_most_setups
  F_most_setups := fun_mk l_most_setups c_most_setups k_most_setups
  b_most_setups := (fun_mk (st := s_most_setups) l_most_setups c_most_setups k_most_setups).binds (ps := ["machine", "block"]) fun _ _ _ _ _ _ us hl => match us, hl with | [_, _], _ => rfl
  m_most_setups := PySem.W.mg_of X G n_most_setups
  a_through := a_through
  fd_through := PySem.W.fnOf "through" "through" (defArgs s_through) (defBody s_through) (defScope s_through) .none kV_through dc_through pm_through an_through cd_through ct_through
  F_through := fun_mk l_through c_through k_through
  b_through := (fun_mk (st := s_through) l_through c_through k_through).binds (ps := ["machine", "block", "row", "side"]) fun _ _ _ _ _ _ us hl => match us, hl with | [_, _, _, _], _ => rfl
  m_through := PySem.W.mg_of X G n_through
  a_L_halves := a_L_halves
  fd_L_halves := PySem.W.fnOf "_law_halves" "_law_halves" (defArgs s_L_halves) (defBody s_L_halves) (defScope s_L_halves) .none kV_L_halves dc_L_halves pm_L_halves an_L_halves cd_L_halves ct_L_halves
  F_L_halves := fun_mk l_L_halves c_L_halves k_L_halves
  b_L_halves := (fun_mk (st := s_L_halves) l_L_halves c_L_halves k_L_halves).binds (ps := ["_law_machine_here", "_law_block", "_law_row", "_law_side"]) fun _ _ _ _ _ _ us hl => match us, hl with | [_, _, _, _], _ => rfl
  m_L_halves := PySem.W.mg_of X G n_L_halves
  a_L_turned_about := a_L_turned_about
  fd_L_turned_about := PySem.W.fnOf "_law_turned_about" "_law_turned_about" (defArgs s_L_turned_about) (defBody s_L_turned_about) (defScope s_L_turned_about) .none kV_L_turned_about dc_L_turned_about pm_L_turned_about an_L_turned_about cd_L_turned_about ct_L_turned_about
  F_L_turned_about := fun_mk l_L_turned_about c_L_turned_about k_L_turned_about
  b_L_turned_about := (fun_mk (st := s_L_turned_about) l_L_turned_about c_L_turned_about k_L_turned_about).binds (ps := ["_law_found"]) fun _ _ _ _ _ _ us hl => match us, hl with | [_], _ => rfl
  m_L_turned_about := PySem.W.mg_of X G n_L_turned_about
  a_law := a_law
  fd_law := PySem.W.fnOf "law" "law" (defArgs s_law) (defBody s_law) (defScope s_law) .none kV_law dc_law pm_law an_law cd_law ct_law
  F_law := fun_mk l_law c_law k_law
  b_law := (fun_mk (st := s_law) l_law c_law k_law).binds (ps := ["_law_script"]) fun _ _ _ _ _ _ us hl => match us, hl with | [_], _ => rfl
  m_law := PySem.W.mg_of X G n_law
  C_NoMachine := C_NoMachine
  m_NoMachine := PySem.W.mg_of X G n_NoMachine
  tk_MOST_ROWS := tk_MOST_ROWS
  m_MOST_ROWS := PySem.W.mg_of X G n_MOST_ROWS
  tk_MOST_SIGNS := tk_MOST_SIGNS
  m_MOST_SIGNS := PySem.W.mg_of X G n_MOST_SIGNS
  n_len := PySem.W.mg_none_of X G z_len
  n_max := PySem.W.mg_none_of X G z_max
  n_int := PySem.W.mg_none_of X G z_int
  n_range := PySem.W.mg_none_of X G z_range
  n_all := PySem.W.mg_none_of X G z_all
  n_list := PySem.W.mg_none_of X G z_list
  n_tuple := PySem.W.mg_none_of X G z_tuple
theorem all_mk {l : PySem.W.OpenLaw} {w : World} {K : PySem.W.Frag} {h : Heap} {mg : Str → Option Value} {fa : Addr} (X : K.In h) (G : h.Ns mainGlobals mg) (hfa : mg "law" = some (.ref fa)) (t : Tx K mg)
    (hb : ∃ (kV dc pm : Value) (an : Option Addr) (cd ct : Value), t.fd_law = PySem.W.fnOf "law" "law" (defArgs s_law) (defBody s_law) (defScope s_law) .none kV dc pm an cd ct) :
    ∃ fd : FuncData, (∀ (s : Shared) (v : Value), BindsTo s fd ⟨[v], []⟩ [("_law_script", v)]) ∧ ∀ base : Heap, K.In base → base.Ns mainGlobals mg → FnOk l.prog w K mg base CX0 6 fa fd ["_law_script"] (sp_law K) := by
  have e := hfa.symm.trans t.m_law
  cases e
  refine ⟨t.fd_law, fun s v => ?_, fun base _ _ => ok_law t⟩
  obtain ⟨kV, dc, pm, an, cd, ct, e⟩ := hb
  rw [e]
  exact .of_eq rfl
theorem walk {l : PySem.W.OpenLaw} {q : Program} {loose : List Str} {XP : (Str → Option Value) → Heap → Prop} {YP : World → Heap → Prop} {d : DefRec} {K : Params → PySem.W.Frag} (hn : l.most = some 63) (hdf : d.params.defaults = [])
    (hY : ∀ (w : World) (h : Heap), YP w h → (K w.params).In h)
    (F : ∀ (w : World) (mg : Str → Option Value) (fa : Addr) (h : Heap), (K w.params).In h → h.Ns mainGlobals mg → mg d.name = some (.ref fa) →
      ∃ fd : FuncData, (∀ (s : Shared) (u : Value), BindsTo s fd ⟨[u], []⟩ [("_law_script", u)]) ∧ ∀ base : Heap, (K w.params).In base → base.Ns mainGlobals mg → FnOk l.prog w (K w.params) mg base CX0 6 fa fd ["_law_script"] (sp_law (K w.params))) :
    PySem.W.WalkO q loose XP YP l.row.toRowW d [] (fun f vs => PySem.call f vs) :=
  L2.walk_of (n := 63) (k := 6) (x := "_law_script") (CX := fun _ => CX0) (sp := fun w => sp_law (K w.params)) hn (by decide) hdf ⟨rfl, by decide, by decide⟩ hY F (fun _ _ a ns hl _ hS => ⟨a, ns, rfl, hS, hl, fun _ => rfl⟩) fun _ _ _ _ _ z => z
theorem all_go {l : PySem.W.OpenLaw} {w : World} {K : PySem.W.Frag} {h : Heap} {mg : Str → Option Value} {fa : Addr} {a_L_at a_L_purse a_L_mixed a_L_draw a_L_entry a_L_machine a_L_turned a_L_mirrored a_is_entry a_is_machine a_must_machine a_most_setups a_through a_L_halves a_L_turned_about a_law C_NoMachine : Addr} {od_L_at an_L_at od_L_purse an_L_purse od_L_mixed an_L_mixed od_L_draw an_L_draw od_L_entry an_L_entry od_L_machine an_L_machine od_L_turned an_L_turned od_L_mirrored an_L_mirrored od_is_entry an_is_entry od_is_machine an_is_machine od_must_machine an_must_machine od_most_setups an_most_setups od_through an_through od_L_halves an_L_halves od_L_turned_about an_L_turned_about od_law an_law : Option Addr} {sl_L_at sl_L_purse sl_L_mixed sl_L_draw sl_L_entry sl_L_machine sl_L_turned sl_L_mirrored sl_is_entry sl_is_machine sl_must_machine sl_most_setups sl_through sl_L_halves sl_L_turned_about sl_law : Array (Option Value)} {oc_L_at kV_L_at dc_L_at pm_L_at cd_L_at ct_L_at oc_L_purse kV_L_purse dc_L_purse pm_L_purse cd_L_purse ct_L_purse oc_L_mixed kV_L_mixed dc_L_mixed pm_L_mixed cd_L_mixed ct_L_mixed oc_L_draw kV_L_draw dc_L_draw pm_L_draw cd_L_draw ct_L_draw oc_L_entry kV_L_entry dc_L_entry pm_L_entry cd_L_entry ct_L_entry oc_L_machine kV_L_machine dc_L_machine pm_L_machine cd_L_machine ct_L_machine oc_L_turned kV_L_turned dc_L_turned pm_L_turned cd_L_turned ct_L_turned oc_L_mirrored kV_L_mirrored dc_L_mirrored pm_L_mirrored cd_L_mirrored ct_L_mirrored oc_is_entry kV_is_entry dc_is_entry pm_is_entry cd_is_entry ct_is_entry oc_is_machine kV_is_machine dc_is_machine pm_is_machine cd_is_machine ct_is_machine oc_must_machine kV_must_machine dc_must_machine pm_must_machine cd_must_machine ct_must_machine oc_most_setups kV_most_setups dc_most_setups pm_most_setups cd_most_setups ct_most_setups oc_through kV_through dc_through pm_through cd_through ct_through oc_L_halves kV_L_halves dc_L_halves pm_L_halves cd_L_halves ct_L_halves oc_L_turned_about kV_L_turned_about dc_L_turned_about pm_L_turned_about cd_L_turned_about ct_L_turned_about oc_law kV_law dc_law pm_law cd_law ct_law : Value} {tk_MOST_ROWS tk_MOST_SIGNS : Tok} (X : K.In h) (G : h.Ns mainGlobals mg) (hfa : mg "law" = some (.ref fa))
    (n_NoMachine : PySem.W.nsIn K mainGlobals "NoMachine" = some (some (.ref C_NoMachine)))
    (n_L_at : PySem.W.nsIn K mainGlobals "_law_at" = some (some (.ref a_L_at)))
    (l_L_at : K.lookup a_L_at = some ⟨oc_L_at, od_L_at, .func (PySem.W.fnOf "_law_at" "_law_at" (defArgs s_L_at) (defBody s_L_at) (defScope s_L_at) .none kV_L_at dc_L_at pm_L_at an_L_at cd_L_at ct_L_at), sl_L_at⟩)
    (c_L_at : PySem.W.codeIn K cd_L_at "_law_at" = true)
    (k_L_at : PySem.W.keepIn K (.ref a_L_at) = true)
    (n_L_purse : PySem.W.nsIn K mainGlobals "_law_purse" = some (some (.ref a_L_purse)))
    (l_L_purse : K.lookup a_L_purse = some ⟨oc_L_purse, od_L_purse, .func (PySem.W.fnOf "_law_purse" "_law_purse" (defArgs s_L_purse) (defBody s_L_purse) (defScope s_L_purse) .none kV_L_purse dc_L_purse pm_L_purse an_L_purse cd_L_purse ct_L_purse), sl_L_purse⟩)
    (c_L_purse : PySem.W.codeIn K cd_L_purse "_law_purse" = true)
    (k_L_purse : PySem.W.keepIn K (.ref a_L_purse) = true)
    (n_L_mixed : PySem.W.nsIn K mainGlobals "_law_mixed" = some (some (.ref a_L_mixed)))
    (l_L_mixed : K.lookup a_L_mixed = some ⟨oc_L_mixed, od_L_mixed, .func (PySem.W.fnOf "_law_mixed" "_law_mixed" (defArgs s_L_mixed) (defBody s_L_mixed) (defScope s_L_mixed) .none kV_L_mixed dc_L_mixed pm_L_mixed an_L_mixed cd_L_mixed ct_L_mixed), sl_L_mixed⟩)
    (c_L_mixed : PySem.W.codeIn K cd_L_mixed "_law_mixed" = true)
    (k_L_mixed : PySem.W.keepIn K (.ref a_L_mixed) = true)
    (n_L_draw : PySem.W.nsIn K mainGlobals "_law_draw" = some (some (.ref a_L_draw)))
    (l_L_draw : K.lookup a_L_draw = some ⟨oc_L_draw, od_L_draw, .func (PySem.W.fnOf "_law_draw" "_law_draw" (defArgs s_L_draw) (defBody s_L_draw) (defScope s_L_draw) .none kV_L_draw dc_L_draw pm_L_draw an_L_draw cd_L_draw ct_L_draw), sl_L_draw⟩)
    (c_L_draw : PySem.W.codeIn K cd_L_draw "_law_draw" = true)
    (k_L_draw : PySem.W.keepIn K (.ref a_L_draw) = true)
    (n_L_entry : PySem.W.nsIn K mainGlobals "_law_entry" = some (some (.ref a_L_entry)))
    (l_L_entry : K.lookup a_L_entry = some ⟨oc_L_entry, od_L_entry, .func (PySem.W.fnOf "_law_entry" "_law_entry" (defArgs s_L_entry) (defBody s_L_entry) (defScope s_L_entry) .none kV_L_entry dc_L_entry pm_L_entry an_L_entry cd_L_entry ct_L_entry), sl_L_entry⟩)
    (c_L_entry : PySem.W.codeIn K cd_L_entry "_law_entry" = true)
    (k_L_entry : PySem.W.keepIn K (.ref a_L_entry) = true)
    (n_L_machine : PySem.W.nsIn K mainGlobals "_law_machine" = some (some (.ref a_L_machine)))
    (l_L_machine : K.lookup a_L_machine = some ⟨oc_L_machine, od_L_machine, .func (PySem.W.fnOf "_law_machine" "_law_machine" (defArgs s_L_machine) (defBody s_L_machine) (defScope s_L_machine) .none kV_L_machine dc_L_machine pm_L_machine an_L_machine cd_L_machine ct_L_machine), sl_L_machine⟩)
    (c_L_machine : PySem.W.codeIn K cd_L_machine "_law_machine" = true)
    (k_L_machine : PySem.W.keepIn K (.ref a_L_machine) = true)
    (n_L_turned : PySem.W.nsIn K mainGlobals "_law_turned" = some (some (.ref a_L_turned)))
    (l_L_turned : K.lookup a_L_turned = some ⟨oc_L_turned, od_L_turned, .func (PySem.W.fnOf "_law_turned" "_law_turned" (defArgs s_L_turned) (defBody s_L_turned) (defScope s_L_turned) .none kV_L_turned dc_L_turned pm_L_turned an_L_turned cd_L_turned ct_L_turned), sl_L_turned⟩)
    (c_L_turned : PySem.W.codeIn K cd_L_turned "_law_turned" = true)
    (k_L_turned : PySem.W.keepIn K (.ref a_L_turned) = true)
    (n_L_mirrored : PySem.W.nsIn K mainGlobals "_law_mirrored" = some (some (.ref a_L_mirrored)))
    (l_L_mirrored : K.lookup a_L_mirrored = some ⟨oc_L_mirrored, od_L_mirrored, .func (PySem.W.fnOf "_law_mirrored" "_law_mirrored" (defArgs s_L_mirrored) (defBody s_L_mirrored) (defScope s_L_mirrored) .none kV_L_mirrored dc_L_mirrored pm_L_mirrored an_L_mirrored cd_L_mirrored ct_L_mirrored), sl_L_mirrored⟩)
    (c_L_mirrored : PySem.W.codeIn K cd_L_mirrored "_law_mirrored" = true)
    (k_L_mirrored : PySem.W.keepIn K (.ref a_L_mirrored) = true)
    (n_is_entry : PySem.W.nsIn K mainGlobals "is_entry" = some (some (.ref a_is_entry)))
    (l_is_entry : K.lookup a_is_entry = some ⟨oc_is_entry, od_is_entry, .func (PySem.W.fnOf "is_entry" "is_entry" (defArgs s_is_entry) (defBody s_is_entry) (defScope s_is_entry) .none kV_is_entry dc_is_entry pm_is_entry an_is_entry cd_is_entry ct_is_entry), sl_is_entry⟩)
    (c_is_entry : PySem.W.codeIn K cd_is_entry "is_entry" = true)
    (k_is_entry : PySem.W.keepIn K (.ref a_is_entry) = true)
    (n_is_machine : PySem.W.nsIn K mainGlobals "is_machine" = some (some (.ref a_is_machine)))
    (l_is_machine : K.lookup a_is_machine = some ⟨oc_is_machine, od_is_machine, .func (PySem.W.fnOf "is_machine" "is_machine" (defArgs s_is_machine) (defBody s_is_machine) (defScope s_is_machine) .none kV_is_machine dc_is_machine pm_is_machine an_is_machine cd_is_machine ct_is_machine), sl_is_machine⟩)
    (c_is_machine : PySem.W.codeIn K cd_is_machine "is_machine" = true)
    (k_is_machine : PySem.W.keepIn K (.ref a_is_machine) = true)
    (n_must_machine : PySem.W.nsIn K mainGlobals "must_machine" = some (some (.ref a_must_machine)))
    (l_must_machine : K.lookup a_must_machine = some ⟨oc_must_machine, od_must_machine, .func (PySem.W.fnOf "must_machine" "must_machine" (defArgs s_must_machine) (defBody s_must_machine) (defScope s_must_machine) .none kV_must_machine dc_must_machine pm_must_machine an_must_machine cd_must_machine ct_must_machine), sl_must_machine⟩)
    (c_must_machine : PySem.W.codeIn K cd_must_machine "must_machine" = true)
    (k_must_machine : PySem.W.keepIn K (.ref a_must_machine) = true)
    (n_most_setups : PySem.W.nsIn K mainGlobals "most_setups" = some (some (.ref a_most_setups)))
    (l_most_setups : K.lookup a_most_setups = some ⟨oc_most_setups, od_most_setups, .func (PySem.W.fnOf "most_setups" "most_setups" (defArgs s_most_setups) (defBody s_most_setups) (defScope s_most_setups) .none kV_most_setups dc_most_setups pm_most_setups an_most_setups cd_most_setups ct_most_setups), sl_most_setups⟩)
    (c_most_setups : PySem.W.codeIn K cd_most_setups "most_setups" = true)
    (k_most_setups : PySem.W.keepIn K (.ref a_most_setups) = true)
    (n_through : PySem.W.nsIn K mainGlobals "through" = some (some (.ref a_through)))
    (l_through : K.lookup a_through = some ⟨oc_through, od_through, .func (PySem.W.fnOf "through" "through" (defArgs s_through) (defBody s_through) (defScope s_through) .none kV_through dc_through pm_through an_through cd_through ct_through), sl_through⟩)
    (c_through : PySem.W.codeIn K cd_through "through" = true)
    (k_through : PySem.W.keepIn K (.ref a_through) = true)
    (n_L_halves : PySem.W.nsIn K mainGlobals "_law_halves" = some (some (.ref a_L_halves)))
    (l_L_halves : K.lookup a_L_halves = some ⟨oc_L_halves, od_L_halves, .func (PySem.W.fnOf "_law_halves" "_law_halves" (defArgs s_L_halves) (defBody s_L_halves) (defScope s_L_halves) .none kV_L_halves dc_L_halves pm_L_halves an_L_halves cd_L_halves ct_L_halves), sl_L_halves⟩)
    (c_L_halves : PySem.W.codeIn K cd_L_halves "_law_halves" = true)
    (k_L_halves : PySem.W.keepIn K (.ref a_L_halves) = true)
    (n_L_turned_about : PySem.W.nsIn K mainGlobals "_law_turned_about" = some (some (.ref a_L_turned_about)))
    (l_L_turned_about : K.lookup a_L_turned_about = some ⟨oc_L_turned_about, od_L_turned_about, .func (PySem.W.fnOf "_law_turned_about" "_law_turned_about" (defArgs s_L_turned_about) (defBody s_L_turned_about) (defScope s_L_turned_about) .none kV_L_turned_about dc_L_turned_about pm_L_turned_about an_L_turned_about cd_L_turned_about ct_L_turned_about), sl_L_turned_about⟩)
    (c_L_turned_about : PySem.W.codeIn K cd_L_turned_about "_law_turned_about" = true)
    (k_L_turned_about : PySem.W.keepIn K (.ref a_L_turned_about) = true)
    (n_law : PySem.W.nsIn K mainGlobals "law" = some (some (.ref a_law)))
    (l_law : K.lookup a_law = some ⟨oc_law, od_law, .func (PySem.W.fnOf "law" "law" (defArgs s_law) (defBody s_law) (defScope s_law) .none kV_law dc_law pm_law an_law cd_law ct_law), sl_law⟩)
    (c_law : PySem.W.codeIn K cd_law "law" = true)
    (k_law : PySem.W.keepIn K (.ref a_law) = true)
    (n_MOST_ROWS : PySem.W.nsIn K mainGlobals "MOST_ROWS" = some (some (.int 4 tk_MOST_ROWS)))
    (n_MOST_SIGNS : PySem.W.nsIn K mainGlobals "MOST_SIGNS" = some (some (.int 4 tk_MOST_SIGNS)))
    (z_len : PySem.W.nsIn K mainGlobals "len" = some none)
    (z_max : PySem.W.nsIn K mainGlobals "max" = some none)
    (z_int : PySem.W.nsIn K mainGlobals "int" = some none)
    (z_range : PySem.W.nsIn K mainGlobals "range" = some none)
    (z_all : PySem.W.nsIn K mainGlobals "all" = some none)
    (z_list : PySem.W.nsIn K mainGlobals "list" = some none)
    (z_tuple : PySem.W.nsIn K mainGlobals "tuple" = some none) :
    ∃ fd : FuncData, (∀ (s : Shared) (v : Value), BindsTo s fd ⟨[v], []⟩ [("_law_script", v)]) ∧ ∀ base : Heap, K.In base → base.Ns mainGlobals mg → FnOk l.prog w K mg base CX0 6 fa fd ["_law_script"] (sp_law K) :=
  all_mk X G hfa (all_tx X G n_NoMachine n_L_at l_L_at c_L_at k_L_at n_L_purse l_L_purse c_L_purse k_L_purse n_L_mixed l_L_mixed c_L_mixed k_L_mixed n_L_draw l_L_draw c_L_draw k_L_draw n_L_entry l_L_entry c_L_entry k_L_entry n_L_machine l_L_machine c_L_machine k_L_machine n_L_turned l_L_turned c_L_turned k_L_turned n_L_mirrored l_L_mirrored c_L_mirrored k_L_mirrored n_is_entry l_is_entry c_is_entry k_is_entry n_is_machine l_is_machine c_is_machine k_is_machine n_must_machine l_must_machine c_must_machine k_must_machine n_most_setups l_most_setups c_most_setups k_most_setups n_through l_through c_through k_through n_L_halves l_L_halves c_L_halves k_L_halves n_L_turned_about l_L_turned_about c_L_turned_about k_L_turned_about n_law l_law c_law k_law n_MOST_ROWS n_MOST_SIGNS z_len z_max z_int z_range z_all z_list z_tuple) ⟨_, _, _, _, _, _, rfl⟩
end E
open PySem PySem.W PyProof.Rows
set_option maxRecDepth 100000 in
set_option maxHeartbeats 0 in
theorem PySem.Challenge.cw_endnever_k73_whole_blocks_within_blocks_holds : PySem.Challenge.rw_endnever_k73_whole_blocks_within_blocks.Holds := by
  w_on; o_law; k_head; (case hw => w_witness2)
  k_fill
  refine E.walk (l := PySem.Challenge.rw_endnever_k73_whole_blocks_within_blocks) rfl rfl (fun w h Y => PySem.W.kIn_of Y) ?F
  case F =>
    intro w mg fa h KX G hmg
    refine' E.all_go KX G hmg ?n_NoMachine ?n_L_at ?l_L_at ?c_L_at ?k_L_at ?n_L_purse ?l_L_purse ?c_L_purse ?k_L_purse ?n_L_mixed ?l_L_mixed ?c_L_mixed ?k_L_mixed ?n_L_draw ?l_L_draw ?c_L_draw ?k_L_draw ?n_L_entry ?l_L_entry ?c_L_entry ?k_L_entry ?n_L_machine ?l_L_machine ?c_L_machine ?k_L_machine ?n_L_turned ?l_L_turned ?c_L_turned ?k_L_turned ?n_L_mirrored ?l_L_mirrored ?c_L_mirrored ?k_L_mirrored ?n_is_entry ?l_is_entry ?c_is_entry ?k_is_entry ?n_is_machine ?l_is_machine ?c_is_machine ?k_is_machine ?n_must_machine ?l_must_machine ?c_must_machine ?k_must_machine ?n_most_setups ?l_most_setups ?c_most_setups ?k_most_setups ?n_through ?l_through ?c_through ?k_through ?n_L_halves ?l_L_halves ?c_L_halves ?k_L_halves ?n_L_turned_about ?l_L_turned_about ?c_L_turned_about ?k_L_turned_about ?n_law ?l_law ?c_law ?k_law ?n_MOST_ROWS ?n_MOST_SIGNS ?z_len ?z_max ?z_int ?z_range ?z_all ?z_list ?z_tuple
    (case n_NoMachine => k_is); (case n_L_at => k_is); (case l_L_at => k_is); (case c_L_at => k_is); (case k_L_at => k_is); (case n_L_purse => k_is); (case l_L_purse => k_is); (case c_L_purse => k_is)
    (case k_L_purse => k_is); (case n_L_mixed => k_is); (case l_L_mixed => k_is); (case c_L_mixed => k_is); (case k_L_mixed => k_is); (case n_L_draw => k_is); (case l_L_draw => k_is); (case c_L_draw => k_is)
    (case k_L_draw => k_is); (case n_L_entry => k_is); (case l_L_entry => k_is); (case c_L_entry => k_is); (case k_L_entry => k_is); (case n_L_machine => k_is); (case l_L_machine => k_is); (case c_L_machine => k_is)
    (case k_L_machine => k_is); (case n_L_turned => k_is); (case l_L_turned => k_is); (case c_L_turned => k_is); (case k_L_turned => k_is); (case n_L_mirrored => k_is); (case l_L_mirrored => k_is); (case c_L_mirrored => k_is)
    (case k_L_mirrored => k_is); (case n_is_entry => k_is); (case l_is_entry => k_is); (case c_is_entry => k_is); (case k_is_entry => k_is); (case n_is_machine => k_is); (case l_is_machine => k_is); (case c_is_machine => k_is)
    (case k_is_machine => k_is); (case n_must_machine => k_is); (case l_must_machine => k_is); (case c_must_machine => k_is); (case k_must_machine => k_is); (case n_most_setups => k_is); (case l_most_setups => k_is); (case c_most_setups => k_is)
    (case k_most_setups => k_is); (case n_through => k_is); (case l_through => k_is); (case c_through => k_is); (case k_through => k_is); (case n_L_halves => k_is); (case l_L_halves => k_is); (case c_L_halves => k_is)
    (case k_L_halves => k_is); (case n_L_turned_about => k_is); (case l_L_turned_about => k_is); (case c_L_turned_about => k_is); (case k_L_turned_about => k_is); (case n_law => k_is); (case l_law => k_is); (case c_law => k_is)
    (case k_law => k_is); (case n_MOST_ROWS => k_is); (case n_MOST_SIGNS => k_is); (case z_len => k_is); (case z_max => k_is); (case z_int => k_is); (case z_range => k_is); (case z_all => k_is)
    (case z_list => k_is); (case z_tuple => k_is)
#print axioms PySem.Challenge.cw_endnever_k73_whole_blocks_within_blocks_holds
