import PyProof.Rows.All
import Wide.All
import OpenK.AllK
import Wide.FinOn
import HandS.ForMost
import HandS.SortRule
import HandS.IsInst
import HandS.TupAny
import HandS.TupMul
import HandS.Walk
import HandS.More
import HandS.ListItems
import HandS.Wide
import KE.KTupSum
import HandS.Style
import HandS.Exc
import HandS.ExcOwn
import HandS.ExcIs
import HandS.WordsExc
import HandS.TryOnly
import KE.KIsAll
import HandS.SetFor
import HandS.Deep
import HandS.NoneIn
import HandS.Codes
import HandS.Replace
import KE.GoesRaise
import KE.KAsSuite
import PySem.Challenge.RW_endnever_k14_texts_of_no_setup
set_option Elab.async false
set_option maxRecDepth 100000
set_option maxHeartbeats 4000000
namespace E
open PySem L2
/-! ### small words of our own -/
theorem inr_int {x : V} {ns : List Int} {i : Nat} (h : (ns.map V.int)[i]? = some x) : ∃ z, x = V.int z ∧ ns[i]? = some z := by
  rw [List.getElem?_map] at h
  cases e : ns[i]? with
  | none => rw [e] at h; cases h
  | some z => rw [e] at h; exact ⟨z, (Option.some.inj h).symm, rfl⟩
/-- F stands in H, whatever comes to it -/
theorem sm_new {F H : Hp} {p : Addr} {o : HO} (s : Same F H) (n : H p = Option.none) : Same F (upd H p o) := fun b u e => by
  rw [upd_ne (ne_of_none (s b u e) n)]
  exact s b u e
theorem sm_set {F H : Hp} {p : Addr} {o : HO} (s : Same F H) (n : F p = Option.none) : Same F (upd H p o) := fun b u e => by
  rw [upd_ne (ne_of_none e n)]
  exact s b u e
theorem sm_up {H : Hp} {p : Addr} {o : HO} (n : H p = none) : Same H (upd H p o) := sm_new (Same.refl H) n
theorem cut_63 {ns : List Int} (h : ns.length ≤ 63) : cutV (ns.map V.int) none (some 63) = ns.map V.int := by
  unfold cutV
  have e1 : HT.sIx (ns.map V.int).length 0 none = 0 := rfl
  have e2 : HT.sIx (ns.map V.int).length (ns.map V.int).length (some 63) = (ns.map V.int).length := by
    simp only [HT.sIx, List.length_map]
    rw [if_neg (by decide), show (63 : Int).toNat = 63 from rfl]
    omega
  rw [e1, e2, List.drop_zero, Nat.sub_zero, List.take_length]
theorem ifT {c : Bool} {A B : Prop} (h : c = true) (a : A) : if c = true then A else B := by
  rw [if_pos h]; exact a
theorem ifF {c : Bool} {A B : Prop} (h : c = false) (b : B) : if c = true then A else B := by
  rw [h, if_neg Bool.false_ne_true]; exact b
theorem one_le : 1 ≤ sizeLine := by decide
theorem two_le : 2 ≤ sizeLine := by decide
theorem three_le : 3 ≤ sizeLine := by decide
theorem five_le : 5 ≤ sizeLine := by decide
theorem nil_le : 0 ≤ sizeLine := by decide
theorem lt_size {n : Nat} (h : n ≤ 1000000) : n < sizeLine := Nat.lt_of_le_of_lt h (by decide)
theorem le_size {n : Nat} (h : n ≤ 1000000) : n ≤ sizeLine := Nat.le_of_lt (lt_size h)
theorem pi_listK {X : Cx} {K : PySem.W.Frag} {tg l : Expr} {tl : TE} (e : X.K = K) (h : PE X l tl) : PI X tg l (iList K tl) := by
  subst e; exact pi_list h
theorem pi_tupK {X : Cx} {K : PySem.W.Frag} {tg l : Expr} {tl : TE} (e : X.K = K) (h : PE X l tl) : PI X tg l (iTup K tl) := by
  subst e; exact pi_tup h
theorem crK {X : Cx} {K : PySem.W.Frag} {f : Value} {r : PySem.W.Frag → List V → Hp → VK → Prop} (e : X.K = K) (h : CallR X f (r X.K)) : CallR X f (r K) := by
  subst e; exact h
theorem orK {X : Cx} {K : PySem.W.Frag} {f : Value → Value → Sem Value} {r : PySem.W.Frag → R2} (e : X.K = K) (h : OpR X f (r X.K)) : OpR X f (r K) := by
  subst e; exact h
theorem ixK {X : Cx} {K : PySem.W.Frag} {r : PySem.W.Frag → R2} (e : X.K = K) (h : IxR X (r X.K)) : IxR X (r K) := by
  subst e; exact h
theorem slK {X : Cx} {K : PySem.W.Frag} {r : PySem.W.Frag → V → Option Int → Option Int → Hp → VK → Prop} (e : X.K = K) (h : SlR X (r X.K)) : SlR X (r K) := by
  subst e; exact h
def rLenQ (K : PySem.W.Frag) : List V → Hp → VK → Prop := fun xs H Q => ∃ p ys, xs = [.ref p] ∧ (SqL K H p ys ∨ SqT K H p ys) ∧ Q (.int ys.length) H
def rListQ (K : PySem.W.Frag) : List V → Hp → VK → Prop := fun xs H Q => ∃ p ys, xs = [.ref p] ∧ (SqL K H p ys ∨ SqT K H p ys) ∧ ∀ l, H l = none → Q (.ref l) (upd H l (.lst ys))
def rTupQ (K : PySem.W.Frag) : List V → Hp → VK → Prop := fun xs H Q => ∃ p ys, xs = [.ref p] ∧ ((SqL K H p ys ∧ ∀ l, H l = none → Q (.ref l) (upd H l (.tup ys))) ∨ (SqT K H p ys ∧ Q (.ref p) H))
theorem ne_of_none' {F H : Hp} {q : Addr} (s : Same F H) (n : H q = none) : F q = none := s.free n
/-- a comprehension without a test: its item comes in -/
theorem yes {σ : St} {H : Hp} {A : Hp → Prop} {B : Hp → Prop} (a : A H) : tYes σ H (fun b H3 => if b = true then A H3 else B H3) := by
  show if true = true then A H else B H
  rw [if_pos rfl]; exact a
theorem call_lenQ {X : Cx} : CallR X (.builtin "len") (rLenQ X.K) := call_len_seq
theorem call_listQ {X : Cx} : CallR X (.type "list") (rListQ X.K) := call_list_of
theorem call_tupQ {X : Cx} : CallR X (.type "tuple") (rTupQ X.K) := call_tuple_of
@[irreducible] def rDictP (K : PySem.W.Frag) : List V → Hp → VK → Prop := fun xs H Q => ∃ (a : Addr) (ps : List Addr) (kvs : List (Key × V)), xs = [.ref a] ∧ SqL K H a (ps.map V.ref) ∧ Paired (fun p kv => SqT K H p [kV kv.1, kv.2]) ps kvs ∧ ∀ p, H p = none → Q (.ref p) (upd H p (.dK (mergeK [] kvs)))
theorem call_dictQ {X : Cx} (hc : X.calm = true) : CallR X (.type "dict") (rDictP X.K) := by
  unfold rDictP
  exact call_dictP hc
@[irreducible] def rSortQ (K : PySem.W.Frag) : List V → Hp → VK → Prop := rSortedPO K
theorem call_sortQ {X : Cx} : CallR X (.builtin "sorted") (rSortQ X.K) := by
  unfold rSortQ
  exact cr_sortedPO
theorem pg_tupK {X : Cx} {K : PySem.W.Frag} {es : List Expr} {k n : Nat} {t : TGs} {pos : Pos} (e : X.K = K) (hc : X.calm = true) (h : PGs X es t) (hn : (assignEach es X.env).length = n := by rfl) (hst : (assignEach es X.env).findIdx? (·.1) = none := by rfl) : PG X (.Tuple es k pos) (gTup K n t) := by
  subst e; exact pg_tup hc h hn hst
theorem pe_fldK {X : Cx} {K : PySem.W.Frag} {e : Expr} {f : Str} {pos : Pos} {ta : TE} (ek : X.K = K) (he : PE X e ta) (hb : attributeBase e f X.env (eval e X.env) = eval e X.env) : PE X (.Attribute e f pos) (tFld K ta f) := by
  subst ek; exact pe_fld he hb
/-! ### what stands, what is new: F the frozen part (nobody changes it), H the heap; from F, H to F', H' with changes at mu alone -/
structure Gr (mu : Addr → Prop) (F H F' H' : Hp) : Prop where
  ff : Same F F'
  fh : Same F' H'
  nw : ∀ c o, F' c = some o → F c = some o ∨ H c = none
  fr : ∀ c o, H c = some o → ¬ mu c → H' c = some o
  th : ∀ c, H' c = none → H c = none
/-- nothing but new things -/
abbrev mu0 : Addr → Prop := fun _ => False
/-- the purse alone -/
abbrev muP (p : Addr) : Addr → Prop := fun c => c = p
section
variable {mu : Addr → Prop} {F H F1 H1 F2 H2 : Hp} {q : Addr} {o u : HO}
theorem Gr.refl (s : Same F H) : Gr mu F H F H := ⟨fun _ _ h => h, s, fun _ _ h => .inl h, fun _ _ h _ => h, fun _ h => h⟩
theorem Gr.trans (a : Gr mu F H F1 H1) (b : Gr mu F1 H1 F2 H2) : Gr mu F H F2 H2 where
  ff := fun c o h => b.ff c o (a.ff c o h)
  fh := b.fh
  nw := fun c o h => by
    rcases b.nw c o h with h | h
    · exact a.nw c o h
    · exact .inr (a.th c h)
  fr := fun c o h m => b.fr c o (a.fr c o h m) m
  th := fun c h => a.th c (b.th c h)
/-- a part that changes what is ours, or what mu has -/
theorem Gr.thn {mu' : Addr → Prop} (a : Gr mu F H F1 H1) (b : Gr mu' F1 H1 F2 H2) (k : ∀ c, mu' c → mu c ∨ H c = none) : Gr mu F H F2 H2 where
  ff := fun c o h => b.ff c o (a.ff c o h)
  fh := b.fh
  nw := fun c o h => by
    rcases b.nw c o h with h | h
    · exact a.nw c o h
    · exact .inr (a.th c h)
  fr := fun c o h m => b.fr c o (a.fr c o h m) fun z => (k c z).elim m fun n => by rw [n] at h; cases h
  th := fun c h => a.th c (b.th c h)
theorem Gr.weak {mu' : Addr → Prop} (a : Gr mu F H F1 H1) (m : ∀ c, mu c → mu' c) : Gr mu' F H F1 H1 :=
  ⟨a.ff, a.fh, a.nw, fun c o h n => a.fr c o h fun z => n (m c z), a.th⟩
theorem Gr.of0 (a : Gr mu0 F H F1 H1) : Gr mu F H F1 H1 := a.weak fun _ z => z.elim
/-- a new thing that nobody will change -/
theorem Gr.new (a : Gr mu F H F1 H1) (n : H1 q = none) : Gr mu F H (upd F1 q o) (upd H1 q o) where
  ff := fun c o h => by
    rw [upd_ne (ne_of_none (a.fh c o (a.ff c o h)) n)]
    exact a.ff c o h
  fh := fun c u h => by
    by_cases e : c = q
    · subst e; rw [upd_same] at h ⊢; exact h
    · rw [upd_ne e] at h ⊢; exact a.fh c u h
  nw := fun c u h => by
    by_cases e : c = q
    · subst e; exact .inr (a.th _ n)
    · rw [upd_ne e] at h; exact a.nw c u h
  fr := fun c u h m => by
    rw [upd_ne (ne_of_none (a.fr c u h m) n)]
    exact a.fr c u h m
  th := fun c h => by
    by_cases e : c = q
    · subst e; rw [upd_same] at h; cases h
    · rw [upd_ne e] at h; exact a.th c h
/-- a new thing that may be changed yet -/
theorem Gr.own (a : Gr mu F H F1 H1) (n : H1 q = none) : Gr mu F H F1 (upd H1 q o) where
  ff := a.ff
  fh := fun c u h => by
    rw [upd_ne (ne_of_none (a.fh c u h) n)]
    exact a.fh c u h
  nw := a.nw
  fr := fun c u h m => by
    rw [upd_ne (ne_of_none (a.fr c u h m) n)]
    exact a.fr c u h m
  th := fun c h => by
    by_cases e : c = q
    · subst e; rw [upd_same] at h; cases h
    · rw [upd_ne e] at h; exact a.th c h
/-- a change of what is ours, and not frozen -/
theorem Gr.set (a : Gr mu F H F1 H1) (f : F1 q = none) (m : H q = none ∨ mu q) : Gr mu F H F1 (upd H1 q o) where
  ff := a.ff
  fh := fun c u h => by
    rw [upd_ne (ne_of_none h f)]
    exact a.fh c u h
  nw := a.nw
  fr := fun c u h k => by
    have e : c ≠ q := by
      rintro rfl
      rcases m with m | m
      · rw [m] at h; cases h
      · exact k m
    rw [upd_ne e]
    exact a.fr c u h k
  th := fun c h => by
    by_cases e : c = q
    · subst e; rw [upd_same] at h; cases h
    · rw [upd_ne e] at h; exact a.th c h
/-- what was ours is changed no more -/
theorem Gr.frz (a : Gr mu F H F1 H1) (h : H1 q = some o) (n : H q = none) (f : F1 q = none) : Gr mu F H (upd F1 q o) H1 where
  ff := fun c u e => by
    rw [upd_ne (ne_of_none (a.ff c u e) f)]
    exact a.ff c u e
  fh := fun c u e => by
    by_cases k : c = q
    · subst k; rw [upd_same] at e; cases e; exact h
    · rw [upd_ne k] at e; exact a.fh c u e
  nw := fun c u e => by
    by_cases k : c = q
    · subst k; exact .inr n
    · rw [upd_ne k] at e; exact a.nw c u e
  fr := a.fr
  th := a.th
theorem Gr.free (a : Gr mu F H F1 H1) (n : H1 q = none) : F1 q = none := a.fh.free n
end
/-- an owned thing: new since H, not frozen, it is o now -/
structure Ow (H F H1 : Hp) (q : Addr) (o : HO) : Prop where
  n : H q = none
  f : F q = none
  h : H1 q = some o
section
variable {mu mu' : Addr → Prop} {H0 F H F1 H1 : Hp} {q r : Addr} {o u : HO}
theorem Ow.call (w : Ow H0 F H q o) (a : Gr mu F H F1 H1) (m : ¬ mu q) : Ow H0 F1 H1 q o :=
  ⟨w.n, (by
    cases e : F1 q with
    | none => rfl
    | some z =>
      rcases a.nw q z e with k | k
      · rw [w.f] at k; cases k
      · rw [w.h] at k; cases k), a.fr q o w.h m⟩
theorem Ow.ne (w : Ow H0 F H q o) (n : H r = none) : q ≠ r := ne_of_none w.h n
theorem Ow.new (w : Ow H0 F H q o) (n : H r = none) : Ow H0 (upd F r u) (upd H r u) q o :=
  ⟨w.n, by rw [upd_ne (w.ne n)]; exact w.f, by rw [upd_ne (w.ne n)]; exact w.h⟩
theorem Ow.own (w : Ow H0 F H q o) (n : H r = none) : Ow H0 F (upd H r u) q o :=
  ⟨w.n, w.f, by rw [upd_ne (w.ne n)]; exact w.h⟩
theorem Ow.mk1 (a : Gr mu H0' H0 F H) (n : H q = none) : Ow H0 F (upd H q o) q o := ⟨a.th q n, a.free n, upd_same⟩
theorem Ow.set (w : Ow H0 F H q o) : Ow H0 F (upd H q u) q u := ⟨w.n, w.f, upd_same⟩
theorem Ow.other (w : Ow H0 F H q o) (e : q ≠ r) : Ow H0 F (upd H r u) q o := ⟨w.n, w.f, by rw [upd_ne e]; exact w.h⟩
end
/-! ### what stands for a datum -/
def All2 {α β : Type} (r : α → β → Prop) (xs : List α) (ys : List β) : Prop := xs.length = ys.length ∧ ∀ (i : Nat) (x : α) (y : β), xs[i]? = some x → ys[i]? = some y → r x y
section
variable {α β : Type} {r s : α → β → Prop} {xs xs' : List α} {ys ys' : List β}
theorem All2.nil : All2 r [] [] := ⟨rfl, fun i x y h => by simp at h⟩
theorem All2.get (a : All2 r xs ys) {i : Nat} {y : β} (h : ys[i]? = some y) : ∃ x, xs[i]? = some x ∧ r x y := by
  have l := (List.getElem?_eq_some_iff.mp h).1
  have l' : i < xs.length := by rw [a.1]; exact l
  exact ⟨xs[i], List.getElem?_eq_getElem l', a.2 i _ y (List.getElem?_eq_getElem l') h⟩
theorem All2.get' (a : All2 r xs ys) {i : Nat} {x : α} (h : xs[i]? = some x) : ∃ y, ys[i]? = some y ∧ r x y := by
  have l := (List.getElem?_eq_some_iff.mp h).1
  have l' : i < ys.length := by rw [← a.1]; exact l
  exact ⟨ys[i], List.getElem?_eq_getElem l', a.2 i x _ h (List.getElem?_eq_getElem l')⟩
theorem All2.imp (a : All2 r xs ys) (f : ∀ x y, r x y → s x y) : All2 s xs ys := ⟨a.1, fun i x y h k => f x y (a.2 i x y h k)⟩
theorem All2.app (a : All2 r xs ys) (b : All2 r xs' ys') : All2 r (xs ++ xs') (ys ++ ys') := by
  refine ⟨by rw [List.length_append, List.length_append, a.1, b.1], fun i x y h k => ?_⟩
  by_cases l : i < xs.length
  · rw [List.getElem?_append_left l] at h
    rw [List.getElem?_append_left (by rw [← a.1]; exact l)] at k
    exact a.2 i x y h k
  · rw [List.getElem?_append_right (by omega)] at h
    rw [List.getElem?_append_right (by rw [← a.1]; omega), ← a.1] at k
    exact b.2 _ x y h k
theorem All2.one {x : α} {y : β} (h : r x y) : All2 r [x] [y] := ⟨rfl, fun i a b p q => by
  cases i with
  | zero => simp at p q; subst p; subst q; exact h
  | succ n => simp at p⟩
theorem All2.cons {x : α} {y : β} (h : r x y) (a : All2 r xs ys) : All2 r (x :: xs) (y :: ys) := (All2.one h).app a
theorem All2.set (a : All2 r xs ys) {x : α} {y : β} (h : r x y) (j : Nat) : All2 r (xs.set j x) (ys.set j y) := by
  refine ⟨by rw [List.length_set, List.length_set]; exact a.1, fun i u v p q => ?_⟩
  by_cases e : j = i
  · subst e
    rw [List.getElem?_set_self'] at p q
    cases e1 : xs[j]? with
    | none => rw [e1] at p; cases p
    | some z =>
      cases e2 : ys[j]? with
      | none => rw [e2] at q; cases q
      | some z2 =>
        rw [e1] at p; rw [e2] at q
        cases p; cases q
        exact h
  · rw [List.getElem?_set_ne e] at p q
    exact a.2 i u v p q
theorem All2.take (a : All2 r xs ys) (n : Nat) : All2 r (xs.take n) (ys.take n) := by
  refine ⟨by rw [List.length_take, List.length_take, a.1], fun i u v p q => ?_⟩
  rw [List.getElem?_take] at p q
  split at p
  · rw [if_pos (by assumption)] at q; exact a.2 i u v p q
  · cases p
theorem All2.drop (a : All2 r xs ys) (n : Nat) : All2 r (xs.drop n) (ys.drop n) := by
  refine ⟨by rw [List.length_drop, List.length_drop, a.1], fun i u v p q => ?_⟩
  rw [List.getElem?_drop] at p q
  exact a.2 _ u v p q
end
class Dat (α : Type) where
  rep : Hp → V → α → Prop
  mono : ∀ {H H' : Hp} {v : V} {d : α}, Same H H' → rep H v d → rep H' v d
  py : α → PyData
  dp : ∀ {K : PySem.W.Frag} {H : Hp} {v : V} {d : α}, rep H v d → Dp K H v (py d)
  can : ∀ d, (py d).canLay0 = true
  dep : Nat
  depth : ∀ d, (py d).depth ≤ dep
  eqv : ∀ a b, PyData.eqv (py a) (py b) = true ↔ a = b
section
variable {α β γ : Type}
/-- v stands for d in H -/
abbrev Is [Dat α] (H : Hp) (v : V) (d : α) : Prop := Dat.rep H v d
theorem Is.up [Dat α] {H H' : Hp} {v : V} {d : α} (h : Is H v d) (s : Same H H') : Is H' v d := Dat.mono s h
abbrev IsAll [Dat α] (H : Hp) (xs : List V) (ds : List α) : Prop := All2 (fun v d => Is H v d) xs ds
theorem IsAll.up [Dat α] {H H' : Hp} {xs : List V} {ds : List α} (h : IsAll H xs ds) (s : Same H H') : IsAll H' xs ds := h.imp fun _ _ z => Is.up z s
theorem dp_all [Dat α] {K : PySem.W.Frag} {H : Hp} : ∀ {xs : List V} {ds : List α}, IsAll H xs ds → DpAll K H xs (ds.map Dat.py)
  | [], [], _ => .nil
  | [], d :: ds, h => by have := h.1; simp at this
  | x :: xs, [], h => by have := h.1; simp at this
  | x :: xs, d :: ds, h => .cons (Dat.dp (h.2 0 x d rfl rfl)) (dp_all ⟨by have := h.1; simpa using this, fun i a b p q => h.2 (i + 1) a b (by simpa using p) (by simpa using q)⟩)
theorem can_all [Dat α] : ∀ ds : List α, PyData.canLayAll0 (ds.map Dat.py) = true
  | [] => rfl
  | d :: ds => by
    show (PyData.canLay0 (Dat.py d) && PyData.canLayAll0 (ds.map Dat.py)) = true
    rw [Dat.can, can_all ds]; rfl
theorem depth_all [Dat α] : ∀ ds : List α, PyData.depthAll (ds.map Dat.py) ≤ Dat.dep α
  | [] => Nat.zero_le _
  | d :: ds => by
    show max (PyData.depth (Dat.py d)) (PyData.depthAll (ds.map Dat.py)) ≤ _
    exact Nat.max_le.mpr ⟨Dat.depth d, depth_all ds⟩
theorem eqv_all [Dat α] : ∀ a b : List α, PyData.eqvAll (a.map Dat.py) (b.map Dat.py) = true ↔ a = b
  | [], [] => by simp [PyData.eqvAll]
  | [], _ :: _ => by simp [PyData.eqvAll]
  | _ :: _, [] => by simp [PyData.eqvAll]
  | x :: xs, y :: ys => by
    rw [List.map_cons, List.map_cons, PyData.eqvAll, Bool.and_eq_true, Dat.eqv, eqv_all xs ys, List.cons.injEq]
instance : Dat Int where
  rep := fun _ v i => v = .int i
  mono := fun _ h => h
  py := .int
  dp := fun h => h ▸ .int _
  can := fun _ => rfl
  dep := 0
  depth := fun _ => Nat.le_refl _
  eqv := fun a b => by simp [PyData.eqv]
instance : Dat Bool where
  rep := fun _ v i => v = .bl i
  mono := fun _ h => h
  py := .bool
  dp := fun h => h ▸ .bl _
  can := fun _ => rfl
  dep := 0
  depth := fun _ => Nat.le_refl _
  eqv := fun a b => by simp [PyData.eqv]
/-- a list of data -/
instance [Dat α] : Dat (List α) where
  rep := fun H v l => ∃ a xs, v = .ref a ∧ H a = some (.lst xs) ∧ IsAll H xs l
  mono := fun s h => by
    obtain ⟨a, xs, e, h, i⟩ := h
    exact ⟨a, xs, e, s _ _ h, IsAll.up i s⟩
  py := fun l => .list (l.map Dat.py)
  dp := fun h => by
    obtain ⟨a, xs, rfl, h, i⟩ := h
    exact .lst (SqL.of h) (dp_all i)
  can := fun d => can_all d
  dep := Dat.dep α + 1
  depth := fun d => Nat.succ_le_succ (depth_all d)
  eqv := fun a b => by rw [PyData.eqv]; exact eqv_all a b
/-- a tuple of data of one kind -/
structure Tup (α : Type) where
  l : List α
  deriving DecidableEq
instance [Dat α] : Dat (Tup α) where
  rep := fun H v l => ∃ a xs, v = .ref a ∧ H a = some (.tup xs) ∧ IsAll H xs l.l
  mono := fun s h => by
    obtain ⟨a, xs, e, h, i⟩ := h
    exact ⟨a, xs, e, s _ _ h, IsAll.up i s⟩
  py := fun l => .tuple (l.l.map Dat.py)
  dp := fun h => by
    obtain ⟨a, xs, rfl, h, i⟩ := h
    exact .tup (SqT.of h) (dp_all i)
  can := fun d => can_all d.l
  dep := Dat.dep α + 1
  depth := fun d => Nat.succ_le_succ (depth_all d.l)
  eqv := fun a b => by
    rw [PyData.eqv, eqv_all]
    obtain ⟨a⟩ := a; obtain ⟨b⟩ := b
    simp
/-- a pair; a triple -/
structure T2 (α β : Type) where
  a : α
  b : β
  deriving DecidableEq
structure T3 (α β γ : Type) where
  a : α
  b : β
  c : γ
  deriving DecidableEq
instance [Dat α] [Dat β] : Dat (T2 α β) where
  rep := fun H v d => ∃ p x y, v = .ref p ∧ H p = some (.tup [x, y]) ∧ Is H x d.a ∧ Is H y d.b
  mono := fun s h => by
    obtain ⟨p, x, y, e, h, i, j⟩ := h
    exact ⟨p, x, y, e, s _ _ h, Is.up i s, Is.up j s⟩
  py := fun d => .tuple [Dat.py d.a, Dat.py d.b]
  dp := fun h => by
    obtain ⟨p, x, y, rfl, h, i, j⟩ := h
    exact .tup (SqT.of h) (.cons (Dat.dp i) (.cons (Dat.dp j) .nil))
  can := fun d => by
    show (PyData.canLay0 (Dat.py d.a) && (PyData.canLay0 (Dat.py d.b) && true)) = true
    rw [Dat.can, Dat.can]; rfl
  dep := max (Dat.dep α) (Dat.dep β) + 1
  depth := fun d => by
    have h1 := Dat.depth d.a
    have h2 := Dat.depth d.b
    show max (PyData.depth (Dat.py d.a)) (max (PyData.depth (Dat.py d.b)) 0) + 1 ≤ _
    omega
  eqv := fun a b => by
    obtain ⟨a, a'⟩ := a; obtain ⟨b, b'⟩ := b
    simp [PyData.eqv, PyData.eqvAll, Dat.eqv]
instance [Dat α] [Dat β] [Dat γ] : Dat (T3 α β γ) where
  rep := fun H v d => ∃ p x y z, v = .ref p ∧ H p = some (.tup [x, y, z]) ∧ Is H x d.a ∧ Is H y d.b ∧ Is H z d.c
  mono := fun s h => by
    obtain ⟨p, x, y, z, e, h, i, j, k⟩ := h
    exact ⟨p, x, y, z, e, s _ _ h, Is.up i s, Is.up j s, Is.up k s⟩
  py := fun d => .tuple [Dat.py d.a, Dat.py d.b, Dat.py d.c]
  dp := fun h => by
    obtain ⟨p, x, y, z, rfl, h, i, j, k⟩ := h
    exact .tup (SqT.of h) (.cons (Dat.dp i) (.cons (Dat.dp j) (.cons (Dat.dp k) .nil)))
  can := fun d => by
    show (PyData.canLay0 (Dat.py d.a) && (PyData.canLay0 (Dat.py d.b) && (PyData.canLay0 (Dat.py d.c) && true))) = true
    rw [Dat.can, Dat.can, Dat.can]; rfl
  dep := max (Dat.dep α) (max (Dat.dep β) (Dat.dep γ)) + 1
  depth := fun d => by
    have h1 := Dat.depth d.a
    have h2 := Dat.depth d.b
    have h3 := Dat.depth d.c
    show max (PyData.depth (Dat.py d.a)) (max (PyData.depth (Dat.py d.b)) (max (PyData.depth (Dat.py d.c)) 0)) + 1 ≤ _
    omega
  eqv := fun a b => by
    obtain ⟨a, a', a''⟩ := a; obtain ⟨b, b', b''⟩ := b
    simp [PyData.eqv, PyData.eqvAll, Dat.eqv]
/-- None, or a datum that is a tuple or a list -/
class Big (α : Type) [Dat α] : Prop where
  big : ∀ d : α, (∃ l, Dat.py d = .tuple l) ∨ ∃ l, Dat.py d = .list l
instance [Dat α] : Big (List α) := ⟨fun d => .inr ⟨_, rfl⟩⟩
instance [Dat α] : Big (Tup α) := ⟨fun d => .inl ⟨_, rfl⟩⟩
instance [Dat α] [Dat β] : Big (T2 α β) := ⟨fun d => .inl ⟨_, rfl⟩⟩
instance [Dat α] [Dat β] [Dat γ] : Big (T3 α β γ) := ⟨fun d => .inl ⟨_, rfl⟩⟩
instance [Dat α] [Big α] : Dat (Option α) where
  rep := fun H v d => match d with
    | none => v = .non
    | some d => Is H v d
  mono := fun {H H' v d} s h => by
    cases d with
    | none => exact h
    | some d => exact Is.up (show Is H v d from h) s
  py := fun d => match d with
    | none => .none
    | some d => Dat.py d
  dp := fun {K H v d} h => by
    cases d with
    | none => cases h; exact .non
    | some d => exact Dat.dp (show Is H v d from h)
  can := fun d => by
    cases d with
    | none => rfl
    | some d => exact Dat.can d
  dep := Dat.dep α
  depth := fun d => by
    cases d with
    | none => exact Nat.zero_le _
    | some d => exact Dat.depth d
  eqv := fun a b => by
    cases a with
    | none =>
      cases b with
      | none => exact ⟨fun _ => rfl, fun _ => rfl⟩
      | some b =>
        refine ⟨fun h => ?_, fun h => nomatch h⟩
        have h : PyData.eqv .none (Dat.py b) = true := h
        rcases Big.big b with ⟨l, e⟩ | ⟨l, e⟩ <;> (rw [e] at h; simp only [PyData.eqv] at h; cases h)
    | some a =>
      cases b with
      | none =>
        refine ⟨fun h => ?_, fun h => nomatch h⟩
        have h : PyData.eqv (Dat.py a) .none = true := h
        rcases Big.big a with ⟨l, e⟩ | ⟨l, e⟩ <;> (rw [e] at h; simp only [PyData.eqv] at h; cases h)
      | some b =>
        show PyData.eqv (Dat.py a) (Dat.py b) = true ↔ _
        rw [Dat.eqv, Option.some.injEq]
end
/-- == and != of data -/
theorem eq_dat0 {α : Type} [Dat α] [DecidableEq α] {a b : α} (hd : Dat.dep α ≤ 64) : SeqAt.shaped (Dat.py a) = true ∧ SeqAt.shaped (Dat.py b) = true ∧ PyData.eqv (Dat.py a) (Dat.py b) = decide (a = b) := by
  refine ⟨?_, ?_, ?_⟩
  · show (PyData.canLay0 _ && decide _) = true
    rw [Dat.can, decide_eq_true (Nat.le_trans (Dat.depth a) hd)]; rfl
  · show (PyData.canLay0 _ && decide _) = true
    rw [Dat.can, decide_eq_true (Nat.le_trans (Dat.depth b) hd)]; rfl
  · rw [Bool.eq_iff_iff, Dat.eqv, decide_eq_true_iff]
theorem eq_dat {α : Type} [Dat α] [DecidableEq α] {K : PySem.W.Frag} {H : Hp} {x y : V} {a b : α} {Q : VK} (ha : Is H x a) (hb : Is H y b) (q : Q (.bl (decide (a = b))) H) (hd : Dat.dep α ≤ 64 := by decide) : rEqD K x y H Q := by
  obtain ⟨h1, h2, h3⟩ := eq_dat0 (a := a) (b := b) hd
  exact ⟨Dat.py a, Dat.py b, Dat.dp ha, Dat.dp hb, h1, h2, by rw [h3]; exact q⟩
theorem ne_dat {α : Type} [Dat α] [DecidableEq α] {K : PySem.W.Frag} {H : Hp} {x y : V} {a b : α} {Q : VK} (ha : Is H x a) (hb : Is H y b) (q : Q (.bl (!decide (a = b))) H) (hd : Dat.dep α ≤ 64 := by decide) : rNeD K x y H Q := by
  obtain ⟨h1, h2, h3⟩ := eq_dat0 (a := a) (b := b) hd
  exact ⟨Dat.py a, Dat.py b, Dat.dp ha, Dat.dp hb, h1, h2, by rw [h3]; exact q⟩
/-! ### machines -/
/-- an entry -/
inductive Ent where
  | emp
  | go (put way row : Int)
  deriving DecidableEq
def entO : Ent → HO
  | .emp => .tup []
  | .go p w r => .tup [.int p, .int w, .int r]
def entP : Ent → PyData
  | .emp => .tuple []
  | .go p w r => .tuple [.int p, .int w, .int r]
instance : Dat Ent where
  rep := fun H v e => ∃ a, v = .ref a ∧ H a = some (entO e)
  mono := fun s h => by obtain ⟨a, e, h⟩ := h; exact ⟨a, e, s _ _ h⟩
  py := entP
  dp := fun {K H v d} h => by
    obtain ⟨a, rfl, h⟩ := h
    cases d with
    | emp => exact .tup (SqT.of h) .nil
    | go p w r => exact .tup (SqT.of h) (.cons (.int _) (.cons (.int _) (.cons (.int _) .nil)))
  can := fun d => by cases d <;> rfl
  dep := 1
  depth := fun d => by cases d <;> simp [entP, PyData.depth, PyData.depthAll]
  eqv := fun a b => by cases a <;> cases b <;> simp [entP, PyData.eqv, PyData.eqvAll]
instance : Big Ent := ⟨fun d => by cases d <;> exact .inl ⟨_, rfl⟩⟩
abbrev Mach := List (List Ent)
/-! ### pairs of ints: a dict's items, sorted ones -/
abbrev PI := T2 Int Int
def dI (l : List PI) : List (Key × V) := l.map fun p => (Sum.inl p.a, V.int p.b)
def look (l : List PI) (x : Int) : Option Int := (l.find? fun p => decide (p.a = x)).map (·.b)
def put (l : List PI) (x v : Int) : List PI := if (l.any fun p => decide (p.a = x)) = true then l.map (fun p => if p.a = x then ⟨p.a, v⟩ else p) else l ++ [⟨x, v⟩]
def merge (l m : List PI) : List PI := m.foldl (fun acc p => put acc p.a p.b) l
theorem key_inl (a b : Int) : ((Sum.inl a : Key) = Sum.inl b) = (a = b) := propext ⟨Sum.inl.inj, fun h => by rw [h]⟩
theorem dI_val (x : Int) : ∀ l : List PI, valV (dI l) (Sum.inl x) = (look l x).map V.int
  | [] => rfl
  | p :: l => by
    have ih := dI_val x l
    show valV ((Sum.inl p.a, V.int p.b) :: dI l) (Sum.inl x) = _
    by_cases e : p.a = x
    · rw [valV_pos (by rw [key_inl]; exact e)]
      simp [look, e]
    · rw [valV_neg (by rw [key_inl]; exact e), ih]
      simp [look, e]
theorem dI_put (l : List PI) (x v : Int) : putK (dI l) (Sum.inl x) (.int v) = dI (put l x v) := by
  have e : ((dI l).any fun kv => decide (kv.1 = Sum.inl x)) = (l.any fun p => decide (p.a = x)) := by
    unfold dI
    rw [List.any_map]
    congr 1
    funext p
    simp only [Function.comp, key_inl]
  unfold putK put
  rw [e]
  by_cases a : (l.any fun p => decide (p.a = x)) = true
  · rw [if_pos a, if_pos a]
    unfold dI
    rw [List.map_map, List.map_map]
    congr 1
    funext p
    simp only [Function.comp, key_inl]
    by_cases h : p.a = x
    · rw [if_pos h, if_pos h]
    · rw [if_neg h, if_neg h]
  · rw [if_neg a, if_neg a]
    unfold dI
    rw [List.map_append]
    rfl
theorem dI_merge (m : List PI) : ∀ l : List PI, mergeK (dI l) (dI m) = dI (merge l m) := by
  induction m with
  | nil => intro l; rfl
  | cons p m ih =>
    intro l
    show mergeK (putK (dI l) (Sum.inl p.a) (.int p.b)) (dI m) = dI (merge (put l p.a p.b) m)
    rw [dI_put]
    exact ih _
theorem look_nil (x : Int) : look [] x = none := rfl
theorem look_cons (p : PI) (l : List PI) (x : Int) : look (p :: l) x = if p.a = x then some p.b else look l x := by
  unfold look
  rw [List.find?_cons]
  by_cases e : p.a = x
  · simp [e]
  · simp [e]
theorem look_any (x : Int) : ∀ l : List PI, (l.any fun p => decide (p.a = x)) = (look l x).isSome
  | [] => rfl
  | p :: l => by
    rw [List.any_cons, look_any x l, look_cons]
    by_cases e : p.a = x
    · simp [e]
    · simp [e]
theorem look_map (x y v : Int) : ∀ l : List PI, look (l.map fun p => if p.a = x then ⟨p.a, v⟩ else p) y = (look l y).map fun z => if y = x then v else z
  | [] => rfl
  | p :: l => by
    rw [List.map_cons, look_cons, look_cons, look_map x y v l]
    by_cases e : p.a = x
    · rw [if_pos e]
      by_cases f : p.a = y
      · rw [if_pos f, if_pos f]
        rw [← f, Option.map_some, if_pos e]
      · rw [if_neg f, if_neg f]
    · rw [if_neg e]
      by_cases f : p.a = y
      · rw [if_pos f, if_pos f, Option.map_some, if_neg (by rw [← f]; exact e)]
      · rw [if_neg f, if_neg f]
theorem look_app (l m : List PI) (x : Int) : look (l ++ m) x = (look l x).or (look m x) := by
  induction l with
  | nil => rfl
  | cons p l ih =>
    rw [List.cons_append, look_cons, look_cons, ih]
    by_cases e : p.a = x
    · rw [if_pos e, if_pos e]; rfl
    · rw [if_neg e, if_neg e]
theorem look_put (l : List PI) (x v y : Int) : look (put l x v) y = if y = x then some v else look l y := by
  unfold put
  by_cases a : (l.any fun p => decide (p.a = x)) = true
  · rw [if_pos a, look_map]
    by_cases e : y = x
    · rw [if_pos e, e]
      rw [look_any] at a
      obtain ⟨z, hz⟩ := Option.isSome_iff_exists.mp a
      rw [hz, Option.map_some, if_pos rfl]
    · rw [if_neg e]
      cases look l y with
      | none => rfl
      | some z => rw [Option.map_some, if_neg e]
  · rw [if_neg a, look_app]
    rw [look_any] at a
    by_cases e : y = x
    · rw [if_pos e, e]
      cases h : look l x with
      | none => rw [look_cons, if_pos rfl]; rfl
      | some z => rw [h] at a; exact absurd rfl a
    · rw [if_neg e, look_cons, if_neg (fun z => e z.symm), look_nil]
      cases look l y <;> rfl
/-- no place twice -/
def Nd (l : List PI) : Prop := (l.map (·.a)).Nodup
theorem look_none {l : List PI} {x : Int} : look l x = none ↔ x ∉ l.map (·.a) := by
  induction l with
  | nil => simp [look_nil]
  | cons p l ih =>
    rw [look_cons, List.map_cons, List.mem_cons]
    by_cases e : p.a = x
    · rw [if_pos e]; simp [e]
    · rw [if_neg e, ih]
      constructor
      · intro h z
        rcases z with z | z
        · exact e z.symm
        · exact h z
      · intro h z
        exact h (.inr z)
theorem look_mem {l : List PI} (h : Nd l) {p : PI} (m : p ∈ l) : look l p.a = some p.b := by
  induction l with
  | nil => cases m
  | cons q l ih =>
    have h' := List.nodup_cons.mp h
    rw [look_cons]
    rcases List.mem_cons.mp m with rfl | m
    · rw [if_pos rfl]
    · rw [if_neg (fun e => h'.1 (by show q.a ∈ _; rw [e]; exact List.mem_map.mpr ⟨p, m, rfl⟩))]
      exact ih h'.2 m
theorem mem_look {l : List PI} {x v : Int} (h : look l x = some v) : (⟨x, v⟩ : PI) ∈ l := by
  induction l with
  | nil => cases h
  | cons q l ih =>
    rw [look_cons] at h
    by_cases e : q.a = x
    · rw [if_pos e] at h
      cases h
      subst e
      exact List.mem_cons_self
    · rw [if_neg e] at h
      exact List.mem_cons_of_mem _ (ih h)
theorem nd_put {l : List PI} (h : Nd l) (x v : Int) : Nd (put l x v) := by
  unfold put
  by_cases a : (l.any fun p => decide (p.a = x)) = true
  · rw [if_pos a]
    unfold Nd
    rw [List.map_map]
    have e : ((fun p : PI => p.a) ∘ fun p : PI => if p.a = x then (⟨p.a, v⟩ : PI) else p) = fun p : PI => p.a := by
      funext p
      simp only [Function.comp]
      split <;> rfl
    rw [e]; exact h
  · rw [if_neg a]
    unfold Nd
    rw [List.map_append]
    refine nd_snoc h ?_
    rw [look_any] at a
    refine look_none.mp ?_
    cases q : look l x with
    | none => rfl
    | some z => rw [q] at a; exact absurd rfl a
theorem put_new {l : List PI} {x : Int} (v : Int) (h : look l x = none) : put l x v = l ++ [⟨x, v⟩] := by
  unfold put
  rw [look_any, h]
  rfl
theorem merge_nd {m : List PI} : ∀ {l : List PI}, Nd (l ++ m) → merge l m = l ++ m := by
  induction m with
  | nil => intro l _; simp [merge]
  | cons p m ih =>
    intro l h
    have e : l ++ p :: m = (l ++ [p]) ++ m := by simp
    have hn : look l p.a = none := by
      refine look_none.mpr fun z => ?_
      unfold Nd at h
      rw [List.map_append] at h
      exact (List.nodup_append.mp h).2.2 _ z _ (by rw [List.map_cons]; exact List.mem_cons_self) rfl
    show merge (put l p.a p.b) m = _
    rw [put_new _ hn, e]
    exact ih (by rw [← e]; exact h)
theorem nd_nil : Nd [] := List.nodup_nil
theorem put_len (l : List PI) (x v : Int) : (put l x v).length ≤ l.length + 1 := by
  unfold put
  split
  · rw [List.length_map]; omega
  · rw [List.length_append]; exact Nat.le_refl _
/-- Python's order of pairs -/
def leP (p q : PI) : Bool := decide (p.a < q.a) || (decide (p.a = q.a) && decide (p.b ≤ q.b))
theorem leP_iff {p q : PI} : leP p q = true ↔ p.a < q.a ∨ (p.a = q.a ∧ p.b ≤ q.b) := by simp [leP]
def ins (p : PI) : List PI → List PI
  | [] => [p]
  | q :: l => if leP p q = true then p :: q :: l else q :: ins p l
def srt (l : List PI) : List PI := l.foldr ins []
theorem ins_perm (p : PI) : ∀ l : List PI, (ins p l).Perm (p :: l)
  | [] => List.Perm.refl _
  | q :: l => by
    unfold ins
    split
    · exact List.Perm.refl _
    · exact (List.Perm.cons q (ins_perm p l)).trans (List.Perm.swap p q l)
theorem srt_perm : ∀ l : List PI, (srt l).Perm l
  | [] => List.Perm.refl _
  | p :: l => (ins_perm p (srt l)).trans ((srt_perm l).cons p)
abbrev LeP (p q : PI) : Prop := leP p q = true
theorem leP_trans {p q r : PI} (h1 : LeP p q) (h2 : LeP q r) : LeP p r := by
  have a := leP_iff.mp h1
  have b := leP_iff.mp h2
  exact leP_iff.mpr (by omega)
theorem leP_total (p q : PI) : LeP p q ∨ LeP q p := by
  show leP p q = true ∨ leP q p = true
  rw [leP_iff, leP_iff]
  omega
theorem ins_srt (p : PI) : ∀ {l : List PI}, l.Pairwise LeP → (ins p l).Pairwise LeP
  | [], _ => List.pairwise_singleton _ _
  | q :: l, h => by
    have h' := List.pairwise_cons.mp h
    unfold ins
    split
    · rename_i e
      refine List.pairwise_cons.mpr ⟨fun x m => ?_, h⟩
      rcases List.mem_cons.mp m with rfl | m
      · exact e
      · exact leP_trans e (h'.1 x m)
    · rename_i e
      refine List.pairwise_cons.mpr ⟨fun x m => ?_, ins_srt p h'.2⟩
      rcases List.mem_cons.mp ((ins_perm p l).mem_iff.mp m) with rfl | m
      · rcases leP_total q x with z | z
        · exact z
        · exact absurd z e
      · exact h'.1 x m
theorem srt_srt : ∀ l : List PI, (srt l).Pairwise LeP
  | [] => List.Pairwise.nil
  | p :: l => ins_srt p (srt_srt l)
theorem leP_anti {p q : PI} (h1 : LeP p q) (h2 : LeP q p) : p = q := by
  have a := leP_iff.mp h1
  have b := leP_iff.mp h2
  obtain ⟨x, y⟩ := p
  obtain ⟨x', y'⟩ := q
  have e1 : x = x' := by show x = x'; simp only at a b; omega
  have e2 : y = y' := by simp only at a b; omega
  rw [e1, e2]
/-- there is one sorted list of them -/
theorem srt_uniq : ∀ {l m : List PI}, l.Pairwise LeP → m.Pairwise LeP → l.Perm m → l = m
  | [], m, _, _, h => (List.Perm.eq_nil h.symm).symm
  | x :: l, [], _, _, h => absurd h.length_eq (by simp)
  | x :: l, y :: m, hl, hm, h => by
    have l' := List.pairwise_cons.mp hl
    have m' := List.pairwise_cons.mp hm
    have h1 : LeP y x := by
      rcases List.mem_cons.mp (h.mem_iff.mp (List.mem_cons_self (a := x) (l := l))) with e | z
      · rw [e]; rcases leP_total y y with z | z <;> exact z
      · exact m'.1 x z
    have h2 : LeP x y := by
      rcases List.mem_cons.mp (h.mem_iff.mpr (List.mem_cons_self (a := y) (l := m))) with e | z
      · rw [e]; rcases leP_total x x with z | z <;> exact z
      · exact l'.1 y z
    have e := leP_anti h2 h1
    subst e
    rw [srt_uniq l'.2 m'.2 h.cons_inv]
theorem srt_of {l m : List PI} (h : m.Pairwise LeP) (p : m.Perm l) : m = srt l := srt_uniq h (srt_srt l) (p.trans (srt_perm l).symm)
/-- what a value says as a pair, read off the heap -/
def pOf (H : Hp) : V → Int × Int
  | .ref t => match H t with
    | some (.tup [.int i, .int j]) => (i, j)
    | _ => (0, 0)
  | _ => (0, 0)
theorem pOf_is {H : Hp} {v : V} {d : PI} (h : Is H v d) : ∃ t, v = .ref t ∧ H t = some (.tup [.int (pOf H v).1, .int (pOf H v).2]) ∧ d = ⟨(pOf H v).1, (pOf H v).2⟩ := by
  obtain ⟨t, x, y, rfl, h1, h2, h3⟩ := h
  have h2 : x = .int d.a := h2
  have h3 : y = .int d.b := h3
  subst h2
  subst h3
  have e : pOf H (.ref t) = (d.a, d.b) := by simp only [pOf, h1]
  exact ⟨t, rfl, by rw [e]; exact h1, by rw [e]⟩
theorem all_of {H : Hp} : ∀ {xs : List V} {l : List PI}, IsAll H xs l → l = xs.map fun v => (⟨(pOf H v).1, (pOf H v).2⟩ : PI) := fun {xs l} h => by
  refine List.ext_getElem? fun i => ?_
  rw [List.getElem?_map]
  cases e : xs[i]? with
  | none =>
    have := List.getElem?_eq_none_iff.mp e
    exact List.getElem?_eq_none_iff.mpr (by rw [← h.1]; exact this)
  | some x =>
    obtain ⟨d, hd, hx⟩ := h.get' e
    obtain ⟨t, _, _, q⟩ := pOf_is hx
    rw [hd, q]
    rfl
/-- sorted of a list of pairs -/
theorem sort_pairs {K : PySem.W.Frag} {F H : Hp} {a : Addr} {xs : List V} {l : List PI} {Q : VK} (sF : Same F H) (hx : IsAll F xs l) (ha : SqL K H a xs) (q : ∀ ys p, H p = none → IsAll F ys (srt l) → Q (.ref p) (upd H p (.lst ys))) : rSortQ K [.ref a] H Q := by
  unfold rSortQ
  refine ⟨a, xs, pOf F, rfl, ha, fun x m => ?_, fun ys p hs hb np => q ys p np ?_⟩
  · obtain ⟨i, hi⟩ := List.getElem?_of_mem m
    obtain ⟨d, _, hd⟩ := hx.get' hi
    obtain ⟨t, e, h, _⟩ := pOf_is hd
    exact ⟨t, e, sF _ _ h⟩
  · have el := all_of hx
    have hys : IsAll F ys (ys.map fun v => (⟨(pOf F v).1, (pOf F v).2⟩ : PI)) := by
      refine ⟨by rw [List.length_map], fun i x y h1 h2 => ?_⟩
      rw [List.getElem?_map, h1] at h2
      cases h2
      have m : x ∈ xs := hb.perm.mem_iff.mp (List.mem_of_getElem? h1)
      obtain ⟨j, hj⟩ := List.getElem?_of_mem m
      obtain ⟨d, _, hd⟩ := hx.get' hj
      obtain ⟨t, e, h, e2⟩ := pOf_is hd
      exact ⟨t, _, _, e, h, rfl, rfl⟩
    have es : (ys.map fun v => (⟨(pOf F v).1, (pOf F v).2⟩ : PI)) = srt l := by
      refine srt_of ?_ ?_
      · refine List.pairwise_map.mpr (List.Pairwise.imp (fun {x y} h => ?_) hs)
        have h := SrtO.lexB_no.mp h
        exact leP_iff.mpr (by simp only; omega)
      · rw [el]
        exact hb.perm.map _
    rw [es] at hys
    exact hys
theorem pairs_of {K : PySem.W.Frag} {H : Hp} : ∀ {xs : List V} {l : List PI}, IsAll H xs l → ∃ ps : List Addr, xs = ps.map V.ref ∧ Paired (fun p kv => SqT K H p [kV kv.1, kv.2]) ps (dI l)
  | [], [], _ => ⟨[], rfl, .nil⟩
  | [], d :: l, h => by have := h.1; simp at this
  | x :: xs, [], h => by have := h.1; simp at this
  | x :: xs, d :: l, h => by
    obtain ⟨t, x1, x2, e, h1, h2, h3⟩ := h.2 0 x d rfl rfl
    have h2 : x1 = .int d.a := h2
    have h3 : x2 = .int d.b := h3
    subst h2
    subst h3
    obtain ⟨ps, e2, p⟩ := pairs_of (K := K) (xs := xs) (l := l) ⟨by have := h.1; simpa using this, fun i a b p q => h.2 (i + 1) a b (by simpa using p) (by simpa using q)⟩
    exact ⟨t :: ps, by rw [e, e2]; rfl, .cons (SqT.of h1) p⟩
/-- dict(pairs) -/
theorem dict_pairs {K : PySem.W.Frag} {H : Hp} {a : Addr} {xs : List V} {l : List PI} {Q : VK} (hx : IsAll H xs l) (ha : SqL K H a xs) (q : ∀ p, H p = none → Q (.ref p) (upd H p (.dK (dI (merge [] l))))) : rDictP K [.ref a] H Q := by
  unfold rDictP
  obtain ⟨ps, e, p⟩ := pairs_of (K := K) hx
  refine ⟨a, ps, dI l, rfl, by rw [← e]; exact ha, p, fun d nd => ?_⟩
  have e2 : mergeK [] (dI l) = dI (merge [] l) := dI_merge l []
  rw [e2]
  exact q d nd
/-! ### a dict under its lock -/
theorem lock_in {F H : Hp} {d : Addr} {o : HO} (s : Same F H) : Same (fun c => if c = d then none else F c) (upd H d o) := fun c u h => by
  by_cases e : c = d
  · simp only [e, if_true] at h; cases h
  · simp only [e, if_false] at h
    rw [upd_ne e]; exact s c u h
theorem lock_out {F H F2 H2 : Hp} {d : Addr} {o u : HO} (s : Same F H) (h : H d = some u) (g : Gr mu0 (fun c => if c = d then none else F c) (upd H d o) F2 H2) :
    H2 d = some o ∧ Same F2 (fun c => if c = d then F d else F2 c) ∧ Gr mu0 F H (fun c => if c = d then F d else F2 c) (upd H2 d u) := by
  have n2 : F2 d = none := by
    cases e : F2 d with
    | none => rfl
    | some z =>
      rcases g.nw d z e with k | k
      · simp only [if_true] at k; cases k
      · rw [upd_same] at k; cases k
  refine ⟨g.fr d o upd_same (fun z => z), fun c z e => ?_, ⟨fun c z e => ?_, fun c z e => ?_, fun c z e => ?_, fun c z e m => ?_, fun c e => ?_⟩⟩
  · by_cases k : c = d
    · rw [k, n2] at e; cases e
    · simp only [k, if_false]; exact e
  · by_cases k : c = d
    · simp only [k, if_true]; rw [← k]; exact e
    · simp only [k, if_false]
      exact g.ff c z (by simp only [k, if_false]; exact e)
  · by_cases k : c = d
    · simp only [k, if_true] at e
      rw [k, upd_same, ← h]
      exact s d z e
    · simp only [k, if_false] at e
      rw [upd_ne k]; exact g.fh c z e
  · by_cases k : c = d
    · simp only [k, if_true] at e
      exact .inl (by rw [k]; exact e)
    · simp only [k, if_false] at e
      rcases g.nw c z e with q | q
      · simp only [k, if_false] at q; exact .inl q
      · rw [upd_ne k] at q; exact .inr q
  · by_cases k : c = d
    · rw [k, upd_same]; rw [k, h] at e; exact e
    · rw [upd_ne k]
      exact g.fr c z (by rw [upd_ne k]; exact e) (fun z => z)
  · by_cases k : c = d
    · rw [k, upd_same] at e; cases e
    · rw [upd_ne k] at e
      have q := g.th c e
      rw [upd_ne k] at q; exact q
/-- the signs that aren't 0, in order -/
def nz (p : PI) : Bool := decide (p.b ≠ 0)
def told (l : List PI) : List PI := srt (l.filter nz)
theorem dI_get {l : List PI} {i : Nat} (h : i < l.length) : (dI l)[i]? = some (Sum.inl l[i].a, V.int l[i].b) := by
  unfold dI
  rw [List.getElem?_map, List.getElem?_eq_getElem h]
  rfl
theorem filter_take_succ {l : List PI} {f : PI → Bool} {i : Nat} (h : i < l.length) : (l.take (i + 1)).filter f = (l.take i).filter f ++ (if f l[i] = true then [l[i]] else []) := by
  rw [List.take_add_one, List.getElem?_eq_getElem h, List.filter_append]
  show _ ++ List.filter f [l[i]] = _
  rw [List.filter_cons]
  split <;> rfl
theorem nd_srt {l : List PI} (h : Nd l) : Nd (srt l) := ((srt_perm l).map (fun p : PI => p.a)).nodup_iff.mpr h
theorem mem_srt {l : List PI} {q : PI} : q ∈ srt l ↔ q ∈ l := (srt_perm l).mem_iff
theorem mem_put {l : List PI} {x v : Int} {q : PI} (m : q ∈ put l x v) : q ∈ l ∨ q = ⟨x, v⟩ := by
  unfold put at m
  split at m
  · obtain ⟨z, hz, e⟩ := List.mem_map.mp m
    split at e
    · rename_i h1 h2
      exact .inr (by rw [← e, h2])
    · exact .inl (by rw [← e]; exact hz)
  · rcases List.mem_append.mp m with m | m
    · exact .inl m
    · exact .inr (List.mem_singleton.mp m)
/-! ### sorted(d.items()), d a dict of ints to ints -/
section
open PySem.Spec PyProof.Rows
variable {X : Cx}
/-- many new things are tracked at once -/
theorem inv_many {pins : List (Addr × Obj)} {σ : L2.St} {H H' : Hp} {s : Shared} {h' : Heap} {tk : Nat} {as : List Addr} (I : Inv X pins σ H s) (k : ∀ b o, s.heap.get? b = some o → h'.get? b = some o) (hp : ∀ a ∈ as, s.heap.objs.size ≤ a)
    (p1 : ∀ b, b ∉ as → H' b = H b) (p2 : ∀ b ∈ as, ∀ o, H' b = some o → ObjOk X.prog X.w H' h' b o) : Inv X pins σ H' { s with heap := h', toks := tk } := by
  have old : ∀ b o, s.heap.get? b = some o → b ∉ as := fun b o e z => Nat.lt_irrefl _ (Nat.lt_of_lt_of_le (Heap.lt_size e) (hp b z))
  have trc : ∀ b o, H b = some o → b ∉ as := fun b o e z => by
    have := I.hok.lt e
    exact Nat.lt_irrefl _ (Nat.lt_of_lt_of_le this (hp b z))
  have kp : ∀ b o, H b = some o → H' b = some o := fun b o e => by rw [p1 b (trc b o e)]; exact e
  refine I.un ⟨fun b o q _ _ _ => k b o q, fun b o q _ _ _ => ⟨o.slots, k b o q⟩, fun b o q n _ => by rw [p1 b (old b o q)]; exact n, fun b o q _ => ⟨o, k b o q⟩, fun b xs e => kp b _ e, fun b o u e => kp b _ e, fun b ps e => ⟨#[], by rw [kp b _ e]; simp⟩⟩ fun b o e => ?_
  by_cases m : b ∈ as
  · exact p2 b m o e
  · rw [p1 b m] at e
    exact (I.hok b o e).stay (fun c u _ q => k c u q) (fun c q => kp c _ q) fun c xs q => kp c _ q
/-- the pair that stands at a -/
def pzAt (zs : List (Addr × PI)) (a : Addr) : Option PI := (zs.find? fun z => decide (z.1 = a)).map (·.2)
theorem pzAt_ix : ∀ {zs : List (Addr × PI)}, (zs.map (·.1)).Nodup → ∀ {j : Nat} {z : Addr × PI}, zs[j]? = some z → pzAt zs z.1 = some z.2
  | [], _, j, z, h => by cases h
  | y :: ys, nd, 0, z, h => by
    have e := Option.some.inj h
    subst e
    simp [pzAt]
  | y :: ys, nd, j + 1, z, h => by
    have nd' := List.nodup_cons.mp nd
    have m : z.1 ∈ ys.map (·.1) := List.mem_map.mpr ⟨z, List.mem_of_getElem? (show ys[j]? = some z from h), rfl⟩
    have ih := pzAt_ix nd'.2 (show ys[j]? = some z from h)
    have ne : ¬ y.1 = z.1 := fun e => nd'.1 (by show y.1 ∈ _; rw [e]; exact m)
    unfold pzAt at ih ⊢
    rw [List.find?_cons, decide_eq_false ne]
    exact ih
theorem pzAt_no {zs : List (Addr × PI)} {a : Addr} (h : a ∉ zs.map (·.1)) : pzAt zs a = none := by
  unfold pzAt
  rw [List.find?_eq_none.mpr fun z m e => h (List.mem_map.mpr ⟨z, m, of_decide_eq_true e⟩)]
  rfl
def trk (H : Hp) (B : Addr) (L : HO) (zs : List (Addr × PI)) : Hp := fun b => if b = B then some L else match pzAt zs b with
  | some q => some (.tup [.int q.a, .int q.b])
  | none => H b
def adOf : Value → Addr
  | .ref a => a
  | _ => 0
@[irreducible] def rSortIt : V → Hp → VK → Prop := fun x H Q => ∃ (d : Addr) (l : List PI), x = .ref d ∧ H d = some (.dK (dI l)) ∧
  ∀ (H' : Hp) (p : Addr) (ys : List Addr), Same H H' → H p = none → (∀ t ∈ ys, H t = none) → p ∉ ys → (∀ b, b ≠ p → b ∉ ys → H' b = H b) → H' p = some (.lst (ys.map V.ref)) → All2 (fun t (q : PI) => H' t = some (.tup [.int q.a, .int q.b])) ys (srt l) → Q (.ref p) H'
def tSortIt (te : TE) : TE := fun σ H Q => te σ H fun x H1 => rSortIt x H1 Q
theorem pe_sortedItems {e : Expr} {te : TE} {p apos cpos pos : Pos} (hc : X.calm = true) (he : PE X e te) (hg : Gl X "sorted") (hm : X.mg "sorted" = none) (hv : bootBuiltins "sorted" = some (.builtin "sorted")) (hbase : attributeBase e "items" X.env (eval e X.env) = eval e X.env := by rfl) (hline : (apos.endLine == cpos.line) = true := by rfl)
    (hs : starEach [.Call (.Attribute e "items" apos) [] [] cpos] X.env = (false, eval (.Call (.Attribute e "items" apos) [] [] cpos) X.env) :: starEach [] X.env := by rfl) :
    PE X (.Call (.Name "sorted" p) [.Call (.Attribute e "items" apos) [] [] cpos] [] pos) (tSortIt te) := by
  refine ⟨fun pins s σ H Q I hq => ?_⟩
  refine wpAny_Call_Name_kw (ld_blt I hg hm hv ?_)
  refine PyProof.Rows.callWith_builtin1 ?_ hs rfl
  rw [hs]
  show wpAny _ _ (spliced ((false, eval (.Call (.Attribute e "items" apos) [] [] cpos) X.env) :: backTo pos (starEach [] X.env))) _ _ s
  refine Calls.spliced_cons ?_
  refine wpAny_Call_method (T := "dict") (id := "dict.items") hbase rfl hline F.plainAttrs_dict F.slot_dict_items F.type_dict_items (thn (he.run pins s σ H _ I hq) fun u s1 ⟨x, H1, I1, rx, q⟩ => ?_)
  unfold rSortIt at q
  obtain ⟨d, l, rfl, hd, q⟩ := q
  obtain rfl : u = Value.ref d := rx
  obtain ⟨hz, hs0, vs, kv, hdo⟩ := I1.hok d _ hd
  obtain ⟨ep, hat⟩ := hdo.dictAt
  have lk : (dI l).length = vs.length := Paired.length kv
  have ll : (dI l).length = l.length := by unfold dI; rw [List.length_map]
  refine ⟨hdo.typeIs, hdo.mapOf.noDict, ?_⟩
  show wpAny _ _ (callWith cpos (.builtin "dict.items") [.ref d] [] []) _ X.xe s1
  refine method_meetsIn F.slot_dict_items F.entry_dict_items rfl (PySem.evalArgs_none ⟨rfl, hdo.typeIs, F.args_dict_items_1 _, _, meets_dict_items (mixKind X.prog X.w) d hs0, ⟨vs, hdo⟩, ?_⟩)
  refine Calls.spliced_nil ?_
  have I2 : Inv X pins σ H1 { s1 with heap := s1.heap.push { cls := .type "dict_items", data := .fields #[.ref d] } } := I1.kept (t' := s1.toks) fun b ob q => Heap.get?_push_of_some _ q
  have hB : ((H1 d).isSome) = true := by rw [hd]; rfl
  refine Calls.call_function_entry kind_sorted plain_sorted entry_sorted (args_sorted1 _) (by
    unfold Builtin.«sorted»
    refine wpAny_bind (m := checkCount "sorted" 1 1 _) (wpAny_pure (wpAny_bind (PySem.W.kdx_collect (knd := mixKind X.prog X.w) (kvs := vs) (ep := ep) (I1.ok.hd hc) ⟨_, Heap.get?_push_size _ rfl, rfl, rfl⟩ (hat.push _) (by omega) fun h1 tk as hk hl hG => ?_)))
    refine wpAny_bind (wpAny_newList ?_ (by rw [List.length_map, hl]; omega))
    -- the pairs' tuples: at as
    have nd : as.Nodup := hG.rise.imp fun {a b} h => Nat.ne_of_lt h
    have lz : (as.zip l).map (·.1) = as := List.map_fst_zip (by omega)
    have zx : ∀ (j : Nat) (a : Addr), as[j]? = some a → ∃ (q : PI) (t u : Tok), l[j]? = some q ∧ pzAt (as.zip l) a = some q ∧ h1.get? a = some { cls := .type "tuple", data := .seq #[.int q.a t, .int q.b u] } := fun j a h => by
      obtain ⟨key, k, x, e1, e2, e3⟩ := hG.pairs j a h
      have jl : j < l.length := by have := (List.getElem?_eq_some_iff.mp h).1; omega
      have lj : l[j]? = some l[j] := List.getElem?_eq_getElem jl
      obtain ⟨y, e4, e5, e6⟩ := LiI.paired_get kv (dI_get jl)
      rw [e1] at e4
      have e4 := Option.some.inj e4
      subst e4
      obtain ⟨i, tk1, e7, rfl⟩ | ⟨z, tk1, e7, _⟩ := keyIs_shape (show keyIs k key = true from e2)
      · have e5 : Sum.inl l[j].a = k := e5
        rw [e7] at e5
        have e5 := Sum.inl.inj e5
        subst e5
        obtain ⟨tk2, e6⟩ := (show RelV (.int l[j].b) x from e6)
        subst e6
        exact ⟨l[j], tk1, tk2, lj, pzAt_ix (zs := as.zip l) (by rw [lz]; exact nd) (j := j) (z := (a, l[j])) (List.getElem?_zip_eq_some.mpr ⟨h, lj⟩), e3⟩
      · have e5 : Sum.inl l[j].a = k := e5
        rw [e7] at e5
        cases e5
    have zm : ∀ a ∈ as, ∃ (q : PI) (t u : Tok), pzAt (as.zip l) a = some q ∧ h1.get? a = some { cls := .type "tuple", data := .seq #[.int q.a t, .int q.b u] } := fun a m => by
      obtain ⟨j, hj⟩ := List.getElem?_of_mem m
      obtain ⟨q, t, u, _, h2, h3⟩ := zx j a hj
      exact ⟨q, t, u, h2, h3⟩
    have lm : as.map (fun a => (pzAt (as.zip l) a).getD ⟨0, 0⟩) = l := by
      refine List.ext_getElem? fun j => ?_
      rw [List.getElem?_map]
      cases hj : as[j]? with
      | none =>
        have := List.getElem?_eq_none_iff.mp hj
        exact (List.getElem?_eq_none_iff.mpr (by omega)).symm
      | some a =>
        obtain ⟨q, t, u, h1, h2, _⟩ := zx j a hj
        rw [h1, Option.map_some, h2]; rfl
    generalize ezs : as.zip l = zs at zx zm lm lz
    have s12 : (s1.heap.push { cls := .type "dict_items", data := .fields #[.ref d] }).objs.size ≤ h1.objs.size := by
      have := Heap.lt_size (hk _ _ (Heap.get?_push_size s1.heap rfl))
      rw [Heap.size_push]; exact this
    have Bn : h1.objs.size ∉ as := fun z => Nat.lt_irrefl _ (hG.there z)
    let kk : Value → Int × Int := fun v => (((pzAt zs (adOf v)).getD ⟨0, 0⟩).a, ((pzAt zs (adOf v)).getD ⟨0, 0⟩).b)
    have ho : (h1.push { cls := .type "list", data := .seq (as.map Value.ref).toArray }).get? h1.objs.size = some (seqObj "list" (as.map Value.ref).toArray 0) := Heap.get?_push_size _ rfl
    refine wpAny_bind (wpAny_holding (wpAny_call_entry slot_list_sort ⟨_, ho, rfl⟩ entry_list_sort (SrtO.list_sort_ord (ltv := fun v u => SrtO.lexB (kk v) (kk u)) (SrtO.swo_lex kk) ho (by rw [List.length_map, hl]; omega) (fun h2 => ?_) fun out hso hbo => ⟨_, rfl, wpAny_pure ⟨_, rfl, ?_⟩⟩) (args_list_sort _)))
    · refine SrtO.pairs_sortableO (k := kk) (by omega) (fun v m => ?_) fun o e => ?_
      · obtain ⟨a, ma, rfl⟩ := List.mem_map.mp m
        obtain ⟨q, t, u, h1', h2'⟩ := zm a ma
        refine ⟨a, _, t, u, 0, rfl, Heap.get?_push_of_some _ h2', rfl, ?_⟩
        show _ = Data.seq #[.int ((pzAt zs a).getD ⟨0, 0⟩).a t, .int ((pzAt zs a).getD ⟨0, 0⟩).b u] 0
        rw [h1']
        rfl
      · rw [ho] at e
        cases e
        intro c
        exact absurd (Value.type.inj c) (by decide)
    · have outp : out.Perm (as.map Value.ref) := hbo.perm
      have oe : out = (out.map adOf).map Value.ref := by
        rw [List.map_map]
        refine (List.map_id out).symm.trans (List.map_congr_left fun v m => ?_)
        obtain ⟨a, _, rfl⟩ := List.mem_map.mp (outp.mem_iff.mp m)
        rfl
      have yp : (out.map adOf).Perm as := by
        have := outp.map adOf
        rw [List.map_map] at this
        have e : as.map (adOf ∘ Value.ref) = as := (List.map_congr_left fun a _ => rfl).trans (List.map_id as)
        rw [e] at this; exact this
      generalize out.map adOf = ys at oe yp
      have lo : out.length ≤ sizeLine := by rw [oe, List.length_map, yp.length_eq, hl]; omega
      obtain ⟨ep3, h3B⟩ := sortedHeap_at (vs := as.map Value.ref) (out := out.toArray) ho
      have h3o : ∀ b o, h1.get? b = some o → (sortedHeap (h1.push { cls := .type "list", data := .seq (as.map Value.ref).toArray }) h1.objs.size (as.map Value.ref) out.toArray).get? b = some o := fun b o e => by
        have bl := Heap.lt_size e
        rw [sortedHeap_old (Nat.ne_of_lt bl) (by rw [Heap.size_push]; exact Nat.lt_succ_of_lt bl)]
        exact Heap.get?_push_of_some _ e
      have tB : trk H1 h1.objs.size (.lst (ys.map V.ref)) zs h1.objs.size = some (.lst (ys.map V.ref)) := by unfold trk; rw [if_pos rfl]
      have tT : ∀ a ∈ as, ∀ q, pzAt zs a = some q → trk H1 h1.objs.size (.lst (ys.map V.ref)) zs a = some (.tup [.int q.a, .int q.b]) := fun a m q e => by
        unfold trk
        rw [if_neg (fun z => Bn (by rw [← z]; exact m)), e]
      have tO : ∀ b, b ≠ h1.objs.size → b ∉ as → trk H1 h1.objs.size (.lst (ys.map V.ref)) zs b = H1 b := fun b n m => by
        unfold trk
        rw [if_neg n, pzAt_no (by rw [lz]; exact m)]
      have big : ∀ a ∈ h1.objs.size :: as, (s1.heap.push { cls := .type "dict_items", data := .fields #[.ref d] }).objs.size ≤ a := fun a m => by
        rcases List.mem_cons.mp m with rfl | m
        · exact s12
        · exact Nat.le_of_lt (hG.above a m)
      have J := inv_many (tk := tk) (H' := trk H1 h1.objs.size (.lst (ys.map V.ref)) zs) (h' := sortedHeap (h1.push { cls := .type "list", data := .seq (as.map Value.ref).toArray }) h1.objs.size (as.map Value.ref) out.toArray) (as := h1.objs.size :: as) I2 (fun b o e => h3o b o (hk b o e)) big
          (fun b m => tO b (fun z => m (by rw [z]; exact List.mem_cons_self)) (fun z => m (List.mem_cons_of_mem _ z))) (fun b m o e => by
        by_cases hb : b = h1.objs.size
        · subst hb
          rw [tB] at e
          cases e
          refine ⟨by rw [List.length_map, yp.length_eq, hl]; omega, out, ep3, ?_, h3B⟩
          rw [oe]
          exact LiI.vals_refs ys
        · have m := (List.mem_cons.mp m).resolve_left hb
          obtain ⟨q, t, u, e1, e2⟩ := zm b m
          rw [tT b m q e1] at e
          cases e
          exact ⟨two_le, [.int q.a t, .int q.b u], .cons ⟨_, rfl⟩ (.cons ⟨_, rfl⟩ .nil), ⟨_, h3o b _ e2, rfl, _, rfl⟩⟩)
      have fr1 : ∀ a ∈ h1.objs.size :: as, H1 a = none := fun a m => I2.hok.fresh (big a m)
      have ym : ∀ a, a ∈ ys ↔ a ∈ as := fun a => yp.mem_iff
      refine ⟨.ref h1.objs.size, _, J, rfl, q _ _ ys (fun b o e => ?_) (fr1 _ List.mem_cons_self) (fun t m => fr1 t (List.mem_cons_of_mem _ ((ym t).mp m))) (fun z => Bn ((ym _).mp z)) (fun b n m => tO b n fun z => m ((ym b).mpr z)) tB ?_⟩
      · rw [tO b (fun z => by rw [z, fr1 _ List.mem_cons_self] at e; cases e) (fun z => by rw [fr1 b (List.mem_cons_of_mem _ z)] at e; cases e)]
        exact e
      · have es : ys.map (fun a => (pzAt zs a).getD ⟨0, 0⟩) = srt l := by
          refine srt_of ?_ (by rw [← lm]; exact yp.map _)
          rw [oe] at hso
          have hso := List.pairwise_map.mp hso
          refine List.pairwise_map.mpr (hso.imp fun {x y} h => ?_)
          have h := SrtO.lexB_no.mp h
          exact leP_iff.mpr (by simp only [kk, adOf] at h; omega)
        rw [← es]
        refine ⟨by rw [List.length_map], fun i x y h1 h2 => ?_⟩
        rw [List.getElem?_map, h1] at h2
        cases h2
        have m := (ym x).mp (List.mem_of_getElem? h1)
        obtain ⟨q, t, u, e1, e2⟩ := zm x m
        rw [tT x m q e1]
        show _ = some (HO.tup [V.int ((pzAt zs x).getD ⟨0, 0⟩).a, V.int ((pzAt zs x).getD ⟨0, 0⟩).b])
        rw [e1]
        rfl)
theorem sitems {F H : Hp} {d : Addr} {l : List PI} {Q : VK} (sF : Same F H) (hd : H d = some (.dK (dI l))) (q : ∀ (F' H' : Hp) (p : Addr) (xs : List V), Gr mu0 F H F' H' → Ow H F' H' p (.lst xs) → IsAll F' xs (srt l) → Q (.ref p) H') : rSortIt (.ref d) H Q := by
  unfold rSortIt
  refine ⟨d, l, rfl, hd, fun H' p ys s n nt pn off hp al => ?_⟩
  have fy : ∀ b ∈ ys, F b = none := fun b m => sF.free (nt b m)
  have s' : Same F (fun b => if b ∈ ys then H' b else F b) := fun b o e => by
    by_cases m : b ∈ ys
    · rw [fy b m] at e; cases e
    · simp only [m, if_false]; exact e
  have e2 : ∀ b, b ∈ ys → (if b ∈ ys then H' b else F b) = H' b := fun b m => if_pos m
  refine q (fun b => if b ∈ ys then H' b else F b) H' p (ys.map V.ref) ⟨s', fun b o e => ?_, fun b o e => ?_, fun b o e _ => s b o e, fun b e => s.free e⟩ ⟨n, ?_, hp⟩ ⟨by rw [List.length_map]; exact al.1, fun i x y h1 h2 => ?_⟩
  · by_cases m : b ∈ ys
    · simp only [m, if_true] at e; exact e
    · simp only [m, if_false] at e; exact s b o (sF b o e)
  · by_cases m : b ∈ ys
    · exact .inr (nt b m)
    · simp only [m, if_false] at e; exact .inl e
  · show (if p ∈ ys then H' p else F p) = none
    rw [if_neg pn]; exact sF.free n
  · rw [List.getElem?_map] at h1
    cases e : ys[i]? with
    | none => rw [e] at h1; cases h1
    | some t =>
      rw [e] at h1
      cases h1
      refine ⟨t, _, _, rfl, ?_, rfl, rfl⟩
      show (if t ∈ ys then H' t else F t) = _
      rw [if_pos (List.mem_of_getElem? e)]
      exact al.2 i t y e h2
end
/-! ### sum of a tuple; a tuple not at all or once -/
section
open PySem.Spec PyProof.Rows
variable {X : Cx}
def rSumT (K : PySem.W.Frag) : List V → Hp → VK → Prop := fun vs H Q => ∃ (a : Addr) (ns : List Int), vs = [V.ref a] ∧ SqT K H a (ns.map V.int) ∧ Q (.int ns.sum) H
theorem cr_sumT (hc : X.calm = true) : CallR X (.builtin "sum") (rSumT X.K) := by
  intro pins s σ H vs us Q I r h
  obtain ⟨a, ns, rfl, ht, q⟩ := h
  obtain ⟨its, rv, ⟨o, ho, hcl, n, hd⟩, _⟩ := I.tuple ht
  have hi := rv.ints
  obtain ⟨xs, e⟩ := hi.allInts.items
  have hn : numsOf (intItems xs).toList = ns := by rw [← e]; exact hi.numsOf
  rw [nums_intItems] at hn
  rw [e] at hd
  rw [Vals.ref1 r]
  refine PySem.W.ktm_sumG (I.ok.hd hc) ⟨o, ho, hcl, n, hd⟩ fun h' tk t' hk => ?_
  rw [preSum_eq, List.take_of_length_le (by simp), hn]
  exact ⟨.int _, H, I.kept hk, ⟨_, rfl⟩, q⟩
theorem tup_mul1 (l : Addr) (items : Array Value) (n : Nat) (dd : Option Addr) (sl : Array (Option Value)) (u : Tok) (hne : items.isEmpty = false) :
    Meets (Builtin.«tuple.__mul__» ⟨[.ref l, .int 1 u], []⟩) (fun _ R s => s.heap.get? l = some { cls := .type "tuple", dict := dd, data := .seq items n, slots := sl } ∧ R (.ok (.ret (Value.ref l))) s) :=
  .of_wp fun prog w A R s h => by
    obtain ⟨hp, g, d, tk, os⟩ := s
    obtain ⟨hl, h⟩ := h
    have f1 := AutoSeq1.idx_int
    wp_walk using wpAny_loadPart' hl
    exact ⟨_, rfl, h⟩
theorem tup_mul0 (l : Addr) (items : Array Value) (n : Nat) (dd : Option Addr) (sl : Array (Option Value)) (u : Tok) (hne : items.isEmpty = false) :
    Meets (Builtin.«tuple.__mul__» ⟨[.ref l, .int 0 u], []⟩) (fun _ R s => s.heap.get? l = some { cls := .type "tuple", dict := dd, data := .seq items n, slots := sl } ∧
      R (.ok (.ret (Value.ref s.heap.objs.size))) { s with heap := s.heap.push { cls := Value.type "tuple", data := Data.seq #[] }, toks := s.toks }) :=
  .of_wp fun prog w A R s h => by
    obtain ⟨hp, g, d, tk, os⟩ := s
    obtain ⟨hl, h⟩ := h
    have f1 := AutoSeq1.idx_int
    wp_walk using wpAny_loadPart' hl
    exact ⟨_, rfl, h⟩
def rRep01 (K : PySem.W.Frag) : R2 := fun x y H Q => ∃ l k xs, x = .ref l ∧ y = .int k ∧ SqT K H l xs ∧ xs ≠ [] ∧ ((k = 1 ∧ Q (.ref l) H) ∨ (k = 0 ∧ ∀ p, H p = none → Q (.ref p) (upd H p (.tup []))))
theorem op_rep01 : OpR X (binaryOp .Mult) (rRep01 X.K) := by
  intro pins s σ H x y v u Q I rx ry h
  obtain ⟨l, k, xs, rfl, rfl, hT, hne, h⟩ := h
  cases rx
  obtain ⟨tk, rfl⟩ := ry
  obtain ⟨its, r, ⟨⟨cls, dd, data, sl⟩, ho, hc, n, hd⟩, hs⟩ := I.tuple hT
  simp only at hc hd
  subst hc hd
  have hi : its.toArray.isEmpty = false := by
    cases its with
    | nil => have := r.length; exact absurd (List.eq_nil_of_length_eq_zero this) hne
    | cons a b => rfl
  rcases h with ⟨rfl, q⟩ | ⟨rfl, q⟩
  · refine wpAny_binaryOp_repeat_ref (T := "tuple") (U := "int") (by decide) ⟨_, ho, rfl⟩ (fun s' => typeIs_int s' 1 tk) noFill_tuple_mul F.fills_int_mul F.slot_int_rmul repeat_tuple F.slot_int_index.lookup
      (call_meets F.slot_int_rmul (typeIs_int s 1 tk) F.entry_int_rmul (F.args_int_rmul_2 _ _) (int_rmul_tuple 1 tk l its.toArray n dd sl)
        ⟨ho, rfl, ⟨_, ho, rfl⟩, call_meets F.slot_tuple_mul ⟨_, ho, rfl⟩ F.entry_tuple_mul (F.args_tuple_mul_2 _ _) (tup_mul1 l its.toArray n dd sl tk hi) ⟨ho, ?_⟩⟩)
    exact ⟨.ref l, H, I, rfl, q⟩
  · refine wpAny_binaryOp_repeat_ref (T := "tuple") (U := "int") (by decide) ⟨_, ho, rfl⟩ (fun s' => typeIs_int s' 0 tk) noFill_tuple_mul F.fills_int_mul F.slot_int_rmul repeat_tuple F.slot_int_index.lookup
      (call_meets F.slot_int_rmul (typeIs_int s 0 tk) F.entry_int_rmul (F.args_int_rmul_2 _ _) (int_rmul_tuple 0 tk l its.toArray n dd sl)
        ⟨ho, rfl, ⟨_, ho, rfl⟩, call_meets F.slot_tuple_mul ⟨_, ho, rfl⟩ F.entry_tuple_mul (F.args_tuple_mul_2 _ _) (tup_mul0 l its.toArray n dd sl tk hi) ⟨ho, ?_⟩⟩)
    refine ⟨.ref s.heap.objs.size, _, I.laid (t' := s.toks) (o := .tup []) (fun b ob q => Heap.get?_push_of_some _ q) (Nat.le_refl _) ?_, rfl, q _ (I.hok.fresh (Nat.le_refl _))⟩
    exact ⟨nil_le, _, .nil, IsTup.new _ _⟩
end
/-! slices of tuples, +: the ways -/
@[irreducible] def rSlQ (K : PySem.W.Frag) : V → Option Int → Option Int → Hp → VK → Prop := rSlA K
theorem sl_tupQ {X : Cx} : SlR X (rSlQ X.K) := by
  unfold rSlQ
  exact sl_tupA
@[irreducible] def rCatQ (K : PySem.W.Frag) : R2 := rCatA K
theorem op_catQ {X : Cx} : OpR X (binaryOp .Add) (rCatQ X.K) := by
  unfold rCatQ
  exact op_catA
theorem slA_all {K : PySem.W.Frag} {H : Hp} {a : Addr} {xs : List V} {lo hi : Option Int} {Q : VK} (h : SqT K H a xs) (w : HT.sIx xs.length 0 lo = 0 ∧ HT.sIx xs.length xs.length hi = xs.length) (q : Q (.ref a) H) : rSlQ K (.ref a) lo hi H Q := by
  unfold rSlQ
  exact ⟨a, xs, rfl, h, fun _ => q, fun n => absurd w n⟩
theorem slA_cut {K : PySem.W.Frag} {H : Hp} {a : Addr} {xs : List V} {lo hi : Option Int} {Q : VK} (h : SqT K H a xs) (w : ¬ (HT.sIx xs.length 0 lo = 0 ∧ HT.sIx xs.length xs.length hi = xs.length)) (q : ∀ p, H p = none → Q (.ref p) (upd H p (.tup (cutV xs lo hi)))) : rSlQ K (.ref a) lo hi H Q := by
  unfold rSlQ
  exact ⟨a, xs, rfl, h, fun n => absurd n w, fun _ => q⟩
theorem catA_nil {K : PySem.W.Frag} {H : Hp} {a b : Addr} {ys : List V} {Q : VK} (h : SqT K H a []) (h2 : SqT K H b ys) (l : ys.length ≤ sizeLine) (q : Q (.ref b) H) : rCatQ K (.ref a) (.ref b) H Q := by
  unfold rCatQ
  exact ⟨a, b, [], ys, rfl, rfl, h, h2, by simpa using l, fun _ => q, fun n => absurd rfl n, fun n => absurd rfl n⟩
theorem catA_new {K : PySem.W.Frag} {H : Hp} {a b : Addr} {xs ys : List V} {Q : VK} (h : SqT K H a xs) (h2 : SqT K H b ys) (l : xs.length + ys.length ≤ sizeLine) (n1 : xs ≠ []) (n2 : ys ≠ []) (q : ∀ p, H p = none → Q (.ref p) (upd H p (.tup (xs ++ ys)))) : rCatQ K (.ref a) (.ref b) H Q := by
  unfold rCatQ
  exact ⟨a, b, xs, ys, rfl, rfl, h, h2, l, fun e => absurd e n1, fun _ e => absurd e n2, fun _ _ => q⟩
/-! ### exceptions kept in a name beyond their suite -/
section
open PySem.Spec PyProof.Rows
/-- an exception that was caught: its class, its dict -/
def Kp (a : Addr) (cls : Value) (d : Option Addr) : HO := .ext fun h => ∃ oe : Obj, h.get? a = some oe ∧ Zc cls d oe ∧ ∃ vs, oe.data = .fields vs
section
variable {X : Cx} {pins : List (Addr × Obj)} {σ : L2.St} {H : Hp} {s sI : Shared} {a : Addr} {oe : Obj} {cls : Value} {d : Option Addr} {B : Heap}
/-- what is in hand may be tracked -/
theorem kp_track (I : Inv X pins σ H s) (he : s.heap.get? a = some oe) (hz : Zc cls d oe) (hf : ∃ vs, oe.data = .fields vs) (na : H a = none) (nL : a ≠ X.env.locals) (n0 : X.s_0.heap.get? a = none ∨ a ∈ X.ex) (np : ∀ p ∈ X.pn ++ pins, p.1 ≠ a) :
    Inv X pins σ (upd H a (Kp a cls d)) s where
  ok := I.ok
  os := I.os
  bare := I.bare
  base :=
    { keep := I.base.keep
      slot := I.base.slot
      free := fun b o e n x => by
        have nb : b ≠ a := by
          rintro rfl
          rcases n0 with z | z
          · rw [z] at e; cases e
          · exact x z
        rw [upd_ne nb]; exact I.base.free b o e n x
      there := I.base.there
      tups := fun b xs q => by have z := I.base.tups b xs q; rw [upd_ne (ne_of_none z na)]; exact z
      frzs := fun b o u q => by have z := I.base.frzs b o u q; rw [upd_ne (ne_of_none z na)]; exact z
      tbls := fun b ps q => by
        obtain ⟨m, z⟩ := I.base.tbls b ps q
        exact ⟨m, by rw [upd_ne (ne_of_none z na)]; exact z⟩ }
  loc := I.loc
  cell := I.cell
  free := by rw [upd_ne (Ne.symm nL)]; exact I.free
  freeC := fun x c q => by
    have nc : c ≠ a := by
      rintro rfl
      obtain ⟨v, o, ho, hd⟩ := I.cell x _ q
      obtain ⟨vs, hv⟩ := hf
      rw [he] at ho; cases ho
      rw [hv] at hd; cases hd
    rw [upd_ne nc]; exact I.freeC x c q
  pin := fun p hp => by
    obtain ⟨z1, z2, z3⟩ := I.pin p hp
    exact ⟨z1, by rw [upd_ne (np p hp)]; exact z2, z3⟩
  hok := fun b u q => by
    by_cases hb : b = a
    · subst hb
      rw [upd_same] at q; cases q
      exact ⟨⟨oe, he, hz, hf⟩, ⟨oe, he⟩, fun _ _ ⟨o, z, r⟩ k => ⟨o, k o z, r⟩⟩
    · rw [upd_ne hb] at q
      exact (I.hok b u q).stay (fun _ _ _ z => z) (fun c z => by rw [upd_ne (ne_of_none z na)]; exact z) fun c xs z => by rw [upd_ne (ne_of_none z na)]; exact z
  len := I.len
/-- what came into being on the way stands apart from all that was there -/
theorem kp_new (J : Inv X pins σ H sI) (nb : ∀ b o, sI.heap.get? b = some o → b ∉ frs X.stack → B.get? b = some o) (hB : B.get? a = none) (nf : a ∉ frs X.stack) :
    (X.s_0.heap.get? a = none ∨ a ∈ X.ex) ∧ ∀ p ∈ X.pn ++ pins, p.1 ≠ a := by
  have gone : ∀ o, ¬ sI.heap.get? a = some o := fun o e => by
    have z := nb a o e nf
    rw [hB] at z; cases z
  refine ⟨?_, fun p hp z => ?_⟩
  · by_cases hx : a ∈ X.ex
    · exact .inr hx
    · cases e : X.s_0.heap.get? a with
      | none => exact .inl rfl
      | some o =>
        obtain ⟨o', e'⟩ := J.base.there a o e hx
        exact absurd e' (gone o')
  · have e := (J.pin p hp).1
    rw [z] at e
    exact gone _ e
end
/-- what 'except x as n' wishes of an exception that it always catches: behind the suite it is tracked -/
def wKp (K : PySem.W.Frag) (c : Value) (i : Nat) (ts : Addr → Value → Option Addr → TS) (D : Ends) : WX := fun cls d σ H =>
  PySem.W.exmOne K cls c = some true ∧ ∀ a, H a = none → ts a cls d { nx := fun σ' H' => D.nx (σ'.set i none) (upd H' a (Kp a cls d)), rt := D.rt, bk := fun σ' H' => D.bk (σ'.set i none) H', ct := fun σ' H' => D.ct (σ'.set i none) H' } (σ.set i (some (.ref a))) H
section
variable {X : Cx} {x n : Str} {c : Value} {i : Nat} {body suite : List Stmt} {b0 : Stmt} {np pos pos' : Pos} {tb : WX → TS} {ts : Addr → Value → Option Addr → TS}
theorem ps_try_kp (hst : X.stack = X.env :: X.outer) (hfr : X.env.frame = some X.env.locals) (hN : X.N.Nodup) (hi : X.N[i]? = some n) (hl : X.env.kindOf n = some .local) (hc : Names X x c)
    (hb : ∀ (W : WX) (pn : List (Addr × Obj)) (xe : Value → Shared → Prop), Takes (X.tr pn xe) W → PassesOwn (model X.prog X.w) X.A X.env xe → PSs (X.tr pn xe) body (tb W))
    (hsu : ∀ (a : Addr) (oe : Obj) (cls : Value) (d : Option Addr) (pn : List (Addr × Obj)), Zc cls d oe → (∃ vs, oe.data = .fields vs) → PSs (X.suite a ((a, oe) :: pn)) (b0 :: suite) (ts a cls d)) :
    PS X (.Try body [.ExceptHandler (some (.Name x np)) (some n) (b0 :: suite) pos'] [] [] pos) (fun D σ H => tb (wKp X.K c i ts D) D σ H) := by
  refine ⟨fun pins s σ H D I h => ?_⟩
  have ok := I.ok
  have hA : X.A.frames = some (X.env :: X.outer) := ok.frames.trans (congrArg some hst)
  refine wpAny_Try_except (wpAny_mono
    ((hb (wKp X.K c i ts D) (X.pn ++ pins) _ (fun u s' q => ?_) PassesOwn.looking).run [] s σ H D (I.toTry _) h)
    (fun f s1 hsp => ?_) (fun _ _ q => q))
  · obtain ⟨a, B, sI, pi, σ1, H1, cls, d, rfl, J0, nb, up, sky, na, os, ag, hb1, hyes⟩ := q
    have J := J0.ofTry ok
    rw [show (X.tr (X.pn ++ pins) _).stack = X.env :: X.outer from hst] at sky
    show wpAny (model X.prog X.w) X.A (noteFrame (.ref a) X.env) _ _ _
    refine Sky.land Zc.steady hA hfr sky fun hp fl up1 => ?_
    have J1 : Inv X pins σ1 H1 { s' with heap := hp } := J.landed nb fl.1 (up.trans up1) os ag
    obtain ⟨o1, vs1, e1, z1, d1⟩ := fl.there
    have off : a ∉ frs (X.env :: X.outer) := fun hm => by
      obtain ⟨_, o', e', nof⟩ := fl.2.2.1.mem hm
      rw [e1] at e'; cases e'
      exact nof _ d1
    have nL : a ≠ X.env.locals := by
      rintro rfl
      exact off (List.mem_filterMap.mpr ⟨X.env, List.mem_cons_self, hfr⟩)
    have nF : a ∉ X.fs := fun hm => by
      obtain ⟨v, hv, q⟩ := List.mem_filterMap.mp hm
      exact off (List.mem_filterMap.mpr ⟨v, List.mem_cons_of_mem _ hv, q⟩)
    obtain ⟨n0, np0⟩ := kp_new J nb fl.2.1 (by rw [hst]; exact off)
    have K1 := J1.suite e1 d1 na nL nF
    refine wpAny_handleBy_cons (codeAny_handlers_test ?_) (fun z => nomatch z)
    have lt : PySem.W.Looks (model X.prog X.w) hp (typeOf (.ref a)) cls := fun A Q E s k q => wpAny_typeOf_ref (k _ _ e1) (by rw [z1.1]; exact q)
    have lm := PySem.W.exm_one (M := model X.prog X.w) J1.kIn lt hb1
    have nm : ∀ {Q : Value → Shared → Prop} {E : Value → Shared → Prop}, Q c { s' with heap := hp } → wpAny (model X.prog X.w) (X.A.mark (some (.ref a))) (eval (.Name x np) X.env) Q E { s' with heap := hp } := fun q => by
      obtain ⟨g1, g2, g3 | ⟨g3, g4, g5⟩⟩ := hc
      · exact ld_glob (X := X.suite a ((a, o1) :: (X.pn ++ pins))) K1 g1 g3 q g2
      · exact ld_blt (X := X.suite a ((a, o1) :: (X.pn ++ pins))) K1 g1 g3 g4 q g5 g2
    refine nm (lm.here (codeAny_handlers_suite_as (HandSPX.lands_againZ fl fun hq fm up2 => ?_)))
    have J2 : Inv X pins σ1 H1 { s' with heap := hq } := J.landed nb fm.1 ((up.trans up1).trans up2) os ag
    obtain ⟨o2, vs2, e2, z2, d2⟩ := fm.there
    have K2 := J2.suite e2 d2 na nL nF
    refine store_ok (X := X.suite a ((a, o2) :: (X.pn ++ pins))) (v := .ref a) K2 hN hi (.inl hl) rfl (fun s5 K5 => ?_) (.inr hl)
    refine wpAny_mono ((hsu a o2 cls d (X.pn ++ pins) z2 ⟨_, d2⟩).run [] s5 _ H1 _ K5 (hyes a na)) (fun f s6 hsp => ?_) (fun _ _ z => False.elim z)
    cases f with
    | next =>
      obtain ⟨σ6, H6, K6, q6⟩ := hsp
      obtain ⟨e6, n6, _⟩ := K6.pin (a, o2) (List.mem_append_left _ List.mem_cons_self)
      exact gone_ok (kp_track (K6.unsuite ok) e6 z2 ⟨_, d2⟩ n6 nL n0 np0) hN hi hl fun s7 J7 => ⟨_, _, J7, q6⟩
    | brk =>
      obtain ⟨σ6, H6, K6, q6⟩ := hsp
      exact gone_ok (K6.unsuite ok) hN hi hl fun s7 J7 => ⟨_, _, J7, q6⟩
    | cont =>
      obtain ⟨σ6, H6, K6, q6⟩ := hsp
      exact gone_ok (K6.unsuite ok) hN hi hl fun s7 J7 => ⟨_, _, J7, q6⟩
    | ret u =>
      obtain ⟨v6, σ6, H6, K6, r6, q6⟩ := hsp
      exact gone_ok (K6.unsuite ok) hN hi hl fun s7 J7 => ⟨_, _, _, J7, r6, q6⟩
  · cases f with
    | next =>
      obtain ⟨σ6, H6, K6, q6⟩ := hsp
      exact wpAny_execs_nil ⟨σ6, H6, K6.ofTry ok, q6⟩
    | brk =>
      obtain ⟨σ6, H6, K6, q6⟩ := hsp
      exact ⟨σ6, H6, K6.ofTry ok, q6⟩
    | cont =>
      obtain ⟨σ6, H6, K6, q6⟩ := hsp
      exact ⟨σ6, H6, K6.ofTry ok, q6⟩
    | ret u =>
      obtain ⟨v6, σ6, H6, K6, r6, q6⟩ := hsp
      exact ⟨v6, σ6, H6, K6.ofTry ok, r6, q6⟩
end
/-- isinstance(e, c), e a kept exception of the class at D without a dict of its own -/
@[irreducible] def rIsK (K : PySem.W.Frag) : List V → Hp → VK → Prop := fun xs H Q => ∃ (a D : Addr) (c : V) (cv : Value) (b : Bool), xs = [.ref a, c] ∧ H a = some (Kp a (.ref D) none) ∧ ExcC K D ∧ (∀ u, RelV c u → u = cv) ∧ PySem.W.kitOne K (.ref D) cv = some b ∧ Q (.bl b) H
theorem rIsK.mk {K : PySem.W.Frag} {H : Hp} {Q : VK} {a D : Addr} {c : V} {cv : Value} {b : Bool} (h : H a = some (Kp a (.ref D) none)) (hC : ExcC K D) (hc : ∀ u, RelV c u → u = cv) (e : PySem.W.kitOne K (.ref D) cv = some b) (q : Q (.bl b) H) : rIsK K [.ref a, c] H Q := by
  unfold rIsK; exact ⟨a, D, c, cv, b, rfl, h, hC, hc, e, q⟩
theorem kp_inst {X : Cx} {pins : List (Addr × Obj)} {σ : L2.St} {H : Hp} {s : Shared} {a D : Addr} (I : Inv X pins σ H s) (h : H a = some (Kp a (.ref D) none)) : ∃ oe, PySem.W.InstAt s.heap a oe D none := by
  obtain ⟨⟨oe, he, ⟨z1, z2⟩, vs, hv⟩, _⟩ := I.hok a _ h
  obtain ⟨oc, od, oda, osl⟩ := oe
  dsimp only at z1 z2 hv
  subst z1 z2 hv
  exact ⟨_, he, rfl, rfl, trivial⟩
theorem call_isK {X : Cx} : CallR X (.builtin "isinstance") (rIsK X.K) := by
  intro pins s σ H xs us Q I r h
  unfold rIsK at h
  obtain ⟨a, D, c, cv, b, rfl, hH, C, hcv, e, q⟩ := h
  cases r with
  | cons rx rr =>
    cases rr with
    | cons rt rr =>
      cases rr
      cases rx
      obtain rfl := hcv _ rt
      obtain ⟨oe, J⟩ := kp_inst I hH
      exact PySem.W.kia_one (PySem.W.handS_kitx_exc C.hg C.hk C.hs C.hd C.ha C.hn C.ht C.hm) I.kIn J e (fun z => nomatch z) fun tk => ⟨.bl b, H, I.kept (t' := tk) fun _ _ z => z, rfl, q⟩
/-- isinstance(None, ..) and of other things: the list layer's rule, or a kept exception -/
@[irreducible] def rIsB (K : PySem.W.Frag) : List V → Hp → VK → Prop := fun xs H Q => rIsK K xs H Q ∨ rIsi K xs H Q
theorem call_isB {X : Cx} : CallR X (.builtin "isinstance") (rIsB X.K) := by
  intro pins s σ H xs us Q I r h
  unfold rIsB at h
  rcases h with h | h
  · exact call_isK pins s σ H xs us Q I r h
  · exact call_isi pins s σ H xs us Q I r h
theorem rIsB.k {K : PySem.W.Frag} {H : Hp} {Q : VK} {xs : List V} (h : rIsK K xs H Q) : rIsB K xs H Q := by unfold rIsB; exact .inl h
theorem rIsB.i {K : PySem.W.Frag} {H : Hp} {Q : VK} {xs : List V} (h : rIsi K xs H Q) : rIsB K xs H Q := by unfold rIsB; exact .inr h
/-- whether an instance of t is one of C; of a built-in class -/
theorem kit_own {K : PySem.W.Frag} {t : Value} {C : Addr} {b : Bool} (i : PySem.W.isClsIn K C = true) (ty : PySem.W.typeIn K (.ref C) = some (.type "type")) (s : PySem.W.subIn K t (.ref C) = some b) (se : PySem.W.subIn K (.ref C) (.ref C) = some true) : PySem.W.kitOne K t (.ref C) = some b := by
  unfold PySem.W.kitOne
  by_cases e : (t == Value.ref C) = true
  · rw [if_pos e]
    have e' : t = .ref C := eq_of_beq e
    rw [e', se] at s
    exact s
  · rw [if_neg e]
    have i' : (PySem.W.clsIn K C).isSome = true := i
    show (if ((PySem.W.clsIn K C).isSome && PySem.W.typeIn K (.ref C) == some (.type "type")) = true then PySem.W.subIn K t (.ref C) else none) = some b
    rw [if_pos (by rw [i', ty]; rfl)]
    exact s
theorem kit_blt {K : PySem.W.Frag} {D : Addr} {T : String} {b : Bool} (s : PySem.W.subIn K (.ref D) (.type T) = some b) (m : PySem.W.kitMeta T = true := by decide +kernel) : PySem.W.kitOne K (.ref D) (.type T) = some b := by
  unfold PySem.W.kitOne
  rw [if_neg (by
    intro e
    have e' : Value.ref D = .type T := eq_of_beq e
    cases e')]
  show (if PySem.W.kitMeta T = true then PySem.W.subIn K (.ref D) (.type T) else none) = some b
  rw [if_pos m]
  exact s
/-- isinstance(e, (C1, C2, ..)) -/
@[irreducible] def rIsKT (K : PySem.W.Frag) : List V → Hp → VK → Prop := fun xs H Q => ∃ (a D tp : Addr) (cs : List V) (us : List Value) (b : Bool), xs = [.ref a, .ref tp] ∧ H a = some (Kp a (.ref D) none) ∧ ExcC K D ∧ H tp = some (.tup cs) ∧ Paired ClsV cs us ∧ PySem.W.kitAny K (.ref D) us = some b ∧ Q (.bl b) H
theorem rIsKT.mk {K : PySem.W.Frag} {H : Hp} {Q : VK} {a D tp : Addr} {cs : List V} {us : List Value} {b : Bool} (h : H a = some (Kp a (.ref D) none)) (hC : ExcC K D) (ht : H tp = some (.tup cs)) (hc : Paired ClsV cs us) (e : PySem.W.kitAny K (.ref D) us = some b) (q : Q (.bl b) H) : rIsKT K [.ref a, .ref tp] H Q := by
  unfold rIsKT; exact ⟨a, D, tp, cs, us, b, rfl, h, hC, ht, hc, e, q⟩
theorem call_isKT {X : Cx} : CallR X (.builtin "isinstance") (rIsKT X.K) := by
  intro pins s σ H xs us0 Q I r h
  unfold rIsKT at h
  obtain ⟨a, D, tp, cs, us, b, rfl, hH, C, hT, k, e, q⟩ := h
  obtain ⟨u1, u2, rfl, r1, r2⟩ := vals2 r
  cases r1
  cases r2
  obtain ⟨oe, J⟩ := kp_inst I hH
  obtain ⟨_, its, rv, o, h1, h2, n, h3⟩ := (show ObjOk X.prog X.w H s.heap tp (.tup cs) from I.hok tp _ hT)
  have e3 := ClsV.all k rv
  subst e3
  obtain ⟨oc, od, dt, sl⟩ := o
  simp only at h2 h3
  subst h2 h3
  exact PySem.W.kia_tup (PySem.W.handS_kitx_exc C.hg C.hk C.hs C.hd C.ha C.hn C.ht C.hm) I.kIn J h1 e (fun z => nomatch z) fun tk => ⟨.bl b, H, I.tok tk, rfl, q⟩
@[irreducible] def rIsBT (K : PySem.W.Frag) : List V → Hp → VK → Prop := fun xs H Q => rIsKT K xs H Q ∨ rIsiT K xs H Q
theorem call_isBT {X : Cx} : CallR X (.builtin "isinstance") (rIsBT X.K) := by
  intro pins s σ H xs us Q I r h
  unfold rIsBT at h
  rcases h with h | h
  · exact call_isKT pins s σ H xs us Q I r h
  · exact call_isiT pins s σ H xs us Q I r h
theorem rIsBT.k {K : PySem.W.Frag} {H : Hp} {Q : VK} {xs : List V} (h : rIsKT K xs H Q) : rIsBT K xs H Q := by unfold rIsBT; exact .inl h
theorem rIsBT.i {K : PySem.W.Frag} {H : Hp} {Q : VK} {xs : List V} (h : rIsiT K xs H Q) : rIsBT K xs H Q := by unfold rIsBT; exact .inr h
/-- a def that lets nothing out serves where something may be let out; two promises of one def -/
theorem FnOk.lift {P : Program} {w : World} {K : PySem.W.Frag} {mg : Str → Option Value} {base : Heap} {k : Nat} {f : Addr} {fd : FuncData} {ps : List Str} {sp : Sp} (F : FnOk P w K mg base CX0 k f fd ps sp) : FnOk P w K mg base (L2.CX P w) k f fd ps sp :=
  ⟨F.len, fun A outer s H args us vs Q E hr he hb hv hs => codeAny_mono (F.run A outer s H args us vs Q E hr he hb hv hs) fun r s' hq => by
    cases r with
    | error e => exact False.elim hq
    | ok fl =>
      cases fl with
      | ret u => exact hq
      | _ => exact False.elim hq⟩
theorem FnOk.or {P : Program} {w : World} {K : PySem.W.Frag} {mg : Str → Option Value} {base : Heap} {CX : CXT} {k : Nat} {f : Addr} {fd : FuncData} {ps : List Str} {sp sp' : Sp} (F : FnOk P w K mg base CX k f fd ps sp) (G : FnOk P w K mg base CX k f fd ps sp') :
    FnOk P w K mg base CX k f fd ps fun vs H Q E => sp vs H Q E ∨ sp' vs H Q E :=
  ⟨fun vs H Q E h => h.elim (F.len vs H Q E) (G.len vs H Q E), fun A outer s H args us vs Q E hr he hb hv hs => hs.elim (F.run A outer s H args us vs Q E hr he hb hv) (G.run A outer s H args us vs Q E hr he hb hv)⟩
end
def top (i : Nat) : Stmt := PySem.Challenge.pw_endnever_k14_texts_of_no_setup.main.body.getD i (.Pass ⟨0, 0, 0, 0⟩)
abbrev s_L_mixed : Stmt := top 19
abbrev N_L_mixed : List Str := ["_law_cell", "_law_k", "_law_rest", "_law_number"]
theorem sc_L_mixed : FnScope ["_law_cell", "_law_k", "_law_rest", "_law_number"] ["_law_cell", "_law_k"] (defScope s_L_mixed) := ⟨rfl, rfl, rfl, by decide +kernel, rfl, by decide +kernel, by decide +kernel⟩
abbrev s_L_purse : Stmt := top 20
abbrev N_L_purse : List Str := ["_law_script", "_law_cells", "_law_number", "_law_k"]
theorem sc_L_purse : FnScope ["_law_script", "_law_cells", "_law_number", "_law_k"] ["_law_script"] (defScope s_L_purse) := ⟨rfl, rfl, rfl, by decide +kernel, rfl, by decide +kernel, by decide +kernel⟩
abbrev s_L_draw : Stmt := top 21
abbrev N_L_draw : List Str := ["_law_purse_here", "_law_out_of", "_law_drawn"]
theorem sc_L_draw : FnScope ["_law_purse_here", "_law_out_of", "_law_drawn"] ["_law_purse_here", "_law_out_of"] (defScope s_L_draw) := ⟨rfl, rfl, rfl, by decide +kernel, rfl, by decide +kernel, by decide +kernel⟩
abbrev s_L_place : Stmt := top 24
abbrev N_L_place : List Str := ["_law_purse_here", "_law_size"]
theorem sc_L_place : FnScope ["_law_purse_here", "_law_size"] ["_law_purse_here"] (defScope s_L_place) := ⟨rfl, rfl, rfl, by decide +kernel, rfl, by decide +kernel, by decide +kernel⟩
abbrev s_L_setup : Stmt := top 25
abbrev N_L_setup : List Str := ["_law_purse_here", "_law_many", "_law_place_here", "_law_most", "_law_strip", "_law_k"]
theorem sc_L_setup : FnScope ["_law_purse_here", "_law_many", "_law_place_here", "_law_most", "_law_strip", "_law_k"] ["_law_purse_here"] (defScope s_L_setup) := ⟨rfl, rfl, rfl, by decide +kernel, rfl, by decide +kernel, by decide +kernel⟩
abbrev s_L_setup_text : Stmt := top 26
abbrev N_L_setup_text : List Str := ["_law_setup_here", "_law_words", "_law_place_here", "_law_sign"]
theorem sc_L_setup_text : FnScope ["_law_setup_here", "_law_words", "_law_place_here", "_law_sign"] ["_law_setup_here"] (defScope s_L_setup_text) := ⟨rfl, rfl, rfl, by decide +kernel, rfl, by decide +kernel, by decide +kernel⟩
abbrev s_L_whole : Stmt := top 28
abbrev N_L_whole : List Str := ["_law_text", "_law_figures", "_law_sign"]
theorem sc_L_whole : FnScope ["_law_text", "_law_figures", "_law_sign"] ["_law_text"] (defScope s_L_whole) := ⟨rfl, rfl, rfl, by decide +kernel, rfl, by decide +kernel, by decide +kernel⟩
abbrev s_L_setup_of : Stmt := top 29
abbrev N_L_setup_of : List Str := ["_law_text", "_law_words", "_law_strip", "_law_word_here", "_law_place_here"]
theorem sc_L_setup_of : FnScope ["_law_text", "_law_words", "_law_strip", "_law_word_here", "_law_place_here"] ["_law_text"] (defScope s_L_setup_of) := ⟨rfl, rfl, rfl, by decide +kernel, rfl, by decide +kernel, by decide +kernel⟩
abbrev s_must : Stmt := top 14
abbrev N_must : List Str := ["good"]
theorem sc_must : FnScope ["good"] ["good"] (defScope s_must) := ⟨rfl, rfl, rfl, by decide +kernel, rfl, by decide +kernel, by decide +kernel⟩
abbrev s_read_place : Stmt := top 15
abbrev N_read_place : List Str := ["text", "figures", "sign"]
theorem sc_read_place : FnScope ["text", "figures", "sign"] ["text"] (defScope s_read_place) := ⟨rfl, rfl, rfl, by decide +kernel, rfl, by decide +kernel, by decide +kernel⟩
abbrev s_read_sign : Stmt := top 16
abbrev N_read_sign : List Str := ["text", "place", "even", "sign"]
theorem sc_read_sign : FnScope ["text", "place", "even", "sign"] ["text"] (defScope s_read_sign) := ⟨rfl, rfl, rfl, by decide +kernel, rfl, by decide +kernel, by decide +kernel⟩
abbrev s_read_setup : Stmt := top 17
abbrev N_read_setup : List Str := ["text", "words", "strip", "word", "k"]
theorem sc_read_setup : FnScope ["text", "words", "strip", "word", "k"] ["text"] (defScope s_read_setup) := ⟨rfl, rfl, rfl, by decide +kernel, rfl, by decide +kernel, by decide +kernel⟩
abbrev s_L_read : Stmt := top 30
abbrev N_L_read : List Str := ["_law_text", "_law_found", "_law_caught", "e"]
theorem sc_L_read : FnScope ["_law_text", "_law_found", "_law_caught", "e"] ["_law_text"] (defScope s_L_read) := ⟨rfl, rfl, rfl, by decide +kernel, rfl, by decide +kernel, by decide +kernel⟩
abbrev s_L_same : Stmt := top 22
abbrev N_L_same : List Str := ["_law_found", "_law_due", "_law_k"]
theorem sc_L_same : FnScope ["_law_found", "_law_due", "_law_k"] ["_law_found", "_law_due"] (defScope s_L_same) := ⟨rfl, rfl, rfl, by decide +kernel, rfl, by decide +kernel, by decide +kernel⟩
abbrev s_L_word : Stmt := top 23
abbrev N_L_word : List Str := ["_law_caught", "_law_found"]
theorem sc_L_word : FnScope ["_law_caught", "_law_found"] ["_law_caught"] (defScope s_L_word) := ⟨rfl, rfl, rfl, by decide +kernel, rfl, by decide +kernel, by decide +kernel⟩
abbrev s_L_right : Stmt := top 31
abbrev N_L_right : List Str := ["_law_text", "_law_due", "_law_found", "_law_caught"]
theorem sc_L_right : FnScope ["_law_text", "_law_due", "_law_found", "_law_caught"] ["_law_text"] (defScope s_L_right) := ⟨rfl, rfl, rfl, by decide +kernel, rfl, by decide +kernel, by decide +kernel⟩
abbrev s_L_bent_text : Stmt := top 27
abbrev N_L_bent_text : List Str := ["_law_purse_here", "_law_text", "_law_near", "_law_signs", "_law_sign", "_law_at", "_law_kind", "_law_pair", "_law_words", "_law_spot", "_law_far"]
theorem sc_L_bent_text : FnScope ["_law_purse_here", "_law_text", "_law_near", "_law_signs", "_law_sign", "_law_at", "_law_kind", "_law_pair", "_law_words", "_law_spot", "_law_far"] ["_law_purse_here", "_law_text", "_law_near"] (defScope s_L_bent_text) := ⟨rfl, rfl, rfl, by decide +kernel, rfl, by decide +kernel, by decide +kernel⟩
abbrev s_L_odd : Stmt := top 32
abbrev N_L_odd : List Str := ["_law_purse_here", "_law_text", "_law_nine", "_law_some", "_law_words"]
theorem sc_L_odd : FnScope ["_law_purse_here", "_law_text", "_law_nine", "_law_some", "_law_words"] ["_law_purse_here", "_law_text"] (defScope s_L_odd) := ⟨rfl, rfl, rfl, by decide +kernel, rfl, by decide +kernel, by decide +kernel⟩
abbrev s_law : Stmt := top 33
abbrev N_law : List Str := ["_law_script", "_law_purse_here", "_law_text", "_law_k", "_law_setup_here", "_law_last", "_law_place_here", "_law_sign", "_law_more", "_law_turn"]
theorem sc_law : FnScope ["_law_script", "_law_purse_here", "_law_text", "_law_k", "_law_setup_here", "_law_last", "_law_place_here", "_law_sign", "_law_more", "_law_turn"] ["_law_script"] (defScope s_law) := ⟨rfl, rfl, rfl, by decide +kernel, rfl, by decide +kernel, by decide +kernel⟩
/-- what the top has written: where each def stands, what the names hold -/
structure Tx (K : PySem.W.Frag) (mg : Str → Option Value) where
  a_L_mixed : Addr
  fd_L_mixed : FuncData
  F_L_mixed : Fun K "_law_mixed" "_law_mixed" s_L_mixed a_L_mixed fd_L_mixed
  b_L_mixed : Binds K fd_L_mixed ["_law_cell", "_law_k"] []
  m_L_mixed : mg "_law_mixed" = some (.ref a_L_mixed)
  a_L_purse : Addr
  fd_L_purse : FuncData
  F_L_purse : Fun K "_law_purse" "_law_purse" s_L_purse a_L_purse fd_L_purse
  b_L_purse : Binds K fd_L_purse ["_law_script"] []
  m_L_purse : mg "_law_purse" = some (.ref a_L_purse)
  a_L_draw : Addr
  fd_L_draw : FuncData
  F_L_draw : Fun K "_law_draw" "_law_draw" s_L_draw a_L_draw fd_L_draw
  b_L_draw : Binds K fd_L_draw ["_law_purse_here", "_law_out_of"] []
  m_L_draw : mg "_law_draw" = some (.ref a_L_draw)
  a_L_place : Addr
  fd_L_place : FuncData
  F_L_place : Fun K "_law_place" "_law_place" s_L_place a_L_place fd_L_place
  b_L_place : Binds K fd_L_place ["_law_purse_here"] []
  m_L_place : mg "_law_place" = some (.ref a_L_place)
  a_L_setup : Addr
  fd_L_setup : FuncData
  F_L_setup : Fun K "_law_setup" "_law_setup" s_L_setup a_L_setup fd_L_setup
  b_L_setup : Binds K fd_L_setup ["_law_purse_here"] []
  m_L_setup : mg "_law_setup" = some (.ref a_L_setup)
  a_L_setup_text : Addr
  fd_L_setup_text : FuncData
  F_L_setup_text : Fun K "_law_setup_text" "_law_setup_text" s_L_setup_text a_L_setup_text fd_L_setup_text
  b_L_setup_text : Binds K fd_L_setup_text ["_law_setup_here"] []
  m_L_setup_text : mg "_law_setup_text" = some (.ref a_L_setup_text)
  a_L_whole : Addr
  fd_L_whole : FuncData
  F_L_whole : Fun K "_law_whole" "_law_whole" s_L_whole a_L_whole fd_L_whole
  b_L_whole : Binds K fd_L_whole ["_law_text"] []
  m_L_whole : mg "_law_whole" = some (.ref a_L_whole)
  a_L_setup_of : Addr
  fd_L_setup_of : FuncData
  F_L_setup_of : Fun K "_law_setup_of" "_law_setup_of" s_L_setup_of a_L_setup_of fd_L_setup_of
  b_L_setup_of : Binds K fd_L_setup_of ["_law_text"] []
  m_L_setup_of : mg "_law_setup_of" = some (.ref a_L_setup_of)
  a_must : Addr
  fd_must : FuncData
  F_must : Fun K "must" "must" s_must a_must fd_must
  b_must : Binds K fd_must ["good"] []
  m_must : mg "must" = some (.ref a_must)
  a_read_place : Addr
  fd_read_place : FuncData
  F_read_place : Fun K "read_place" "read_place" s_read_place a_read_place fd_read_place
  b_read_place : Binds K fd_read_place ["text"] []
  m_read_place : mg "read_place" = some (.ref a_read_place)
  a_read_sign : Addr
  fd_read_sign : FuncData
  F_read_sign : Fun K "read_sign" "read_sign" s_read_sign a_read_sign fd_read_sign
  b_read_sign : Binds K fd_read_sign ["text"] []
  m_read_sign : mg "read_sign" = some (.ref a_read_sign)
  a_read_setup : Addr
  fd_read_setup : FuncData
  F_read_setup : Fun K "read_setup" "read_setup" s_read_setup a_read_setup fd_read_setup
  b_read_setup : Binds K fd_read_setup ["text"] []
  m_read_setup : mg "read_setup" = some (.ref a_read_setup)
  a_L_read : Addr
  fd_L_read : FuncData
  F_L_read : Fun K "_law_read" "_law_read" s_L_read a_L_read fd_L_read
  b_L_read : Binds K fd_L_read ["_law_text"] []
  m_L_read : mg "_law_read" = some (.ref a_L_read)
  a_L_same : Addr
  fd_L_same : FuncData
  F_L_same : Fun K "_law_same" "_law_same" s_L_same a_L_same fd_L_same
  b_L_same : Binds K fd_L_same ["_law_found", "_law_due"] []
  m_L_same : mg "_law_same" = some (.ref a_L_same)
  a_L_word : Addr
  fd_L_word : FuncData
  F_L_word : Fun K "_law_word" "_law_word" s_L_word a_L_word fd_L_word
  b_L_word : Binds K fd_L_word ["_law_caught"] []
  m_L_word : mg "_law_word" = some (.ref a_L_word)
  a_L_right : Addr
  fd_L_right : FuncData
  F_L_right : Fun K "_law_right" "_law_right" s_L_right a_L_right fd_L_right
  b_L_right : Binds K fd_L_right ["_law_text"] []
  m_L_right : mg "_law_right" = some (.ref a_L_right)
  a_L_bent_text : Addr
  fd_L_bent_text : FuncData
  F_L_bent_text : Fun K "_law_bent_text" "_law_bent_text" s_L_bent_text a_L_bent_text fd_L_bent_text
  b_L_bent_text : Binds K fd_L_bent_text ["_law_purse_here", "_law_text", "_law_near"] []
  m_L_bent_text : mg "_law_bent_text" = some (.ref a_L_bent_text)
  a_L_odd : Addr
  fd_L_odd : FuncData
  F_L_odd : Fun K "_law_odd" "_law_odd" s_L_odd a_L_odd fd_L_odd
  b_L_odd : Binds K fd_L_odd ["_law_purse_here", "_law_text"] []
  m_L_odd : mg "_law_odd" = some (.ref a_L_odd)
  a_law : Addr
  fd_law : FuncData
  F_law : Fun K "law" "law" s_law a_law fd_law
  b_law : Binds K fd_law ["_law_script"] []
  m_law : mg "law" = some (.ref a_law)
  C_NoText : Addr
  m_NoText : mg "NoText" = some (.ref C_NoText)
  C_MillError : Addr
  m_MillError : mg "MillError" = some (.ref C_MillError)
  C_NoMachine : Addr
  m_NoMachine : mg "NoMachine" = some (.ref C_NoMachine)
  C_NoName : Addr
  m_NoName : mg "NoName" = some (.ref C_NoName)
  C_Twice : Addr
  m_Twice : mg "Twice" = some (.ref C_Twice)
  C_Full : Addr
  m_Full : mg "Full" = some (.ref C_Full)
  C_NoSuch : Addr
  m_NoSuch : mg "NoSuch" = some (.ref C_NoSuch)
  C_NoPaper : Addr
  m_NoPaper : mg "NoPaper" = some (.ref C_NoPaper)
  C_NoDeed : Addr
  m_NoDeed : mg "NoDeed" = some (.ref C_NoDeed)
  C_NoSize : Addr
  m_NoSize : mg "NoSize" = some (.ref C_NoSize)
  tk_FIGURES : Tok
  m_FIGURES : mg "FIGURES" = some (.str "0123456789" tk_FIGURES)
  tk_ROWS : Tok
  m_ROWS : mg "ROWS" = some (.str "ABCD" tk_ROWS)
  n_range : mg "range" = none
  n_len : mg "len" = none
  n_abs : mg "abs" = none
  n_str : mg "str" = none
  n_int : mg "int" = none
  n_all : mg "all" = none
  n_isinstance : mg "isinstance" = none
  n_tuple : mg "tuple" = none
  n_list : mg "list" = none
  n_bool : mg "bool" = none
  n_ValueError : mg "ValueError" = none
  x_NoText : PySem.W.excIn K C_NoText [.type "ValueError", .type "Exception", .type "BaseException", .type "object"] "ValueError.__new__" = true
  k_NoText : PySem.W.keepIn K (.ref C_NoText) = true
  b_NoText : PySem.W.subIn K (.ref C_NoText) (.type "BaseException") = some true
  t_NoText : PySem.W.typeIn K (.ref C_NoText) = some (.type "type")
  h_NoText : PySem.W.hasDictIn K C_NoText = true
  k_MillError : PySem.W.keepIn K (.ref C_MillError) = true
  b_MillError : PySem.W.subIn K (.ref C_MillError) (.type "BaseException") = some true
  t_MillError : PySem.W.typeIn K (.ref C_MillError) = some (.type "type")
  h_MillError : PySem.W.hasDictIn K C_MillError = true
  hg_NoText : PySem.W.findIn K (.ref C_NoText) "__getattribute__" = some (some (.builtin "BaseException.__getattribute__"))
  hk_NoText : PySem.W.findIn K (.ref C_NoText) "__getattr__" = some none
  ha_NoText : PySem.W.findIn K (.ref C_NoText) "__class__" = some (some (.builtin "object.__class__"))
  hm_NoText : PySem.W.mroIn K C_NoText (.type "object") = some true
  s_NoText_MillError : PySem.W.subIn K (.ref C_NoText) (.ref C_MillError) = some true
  hn_ : PySem.W.specialIn K (.builtin "object.__class__") "__get__" = some (some (.builtin "getset_descriptor.__get__"))
  ht_ : PySem.W.takesIn K (.builtin "object.__class__") = some true
  i_NoMachine : PySem.W.isClsIn K C_NoMachine = true
  se_NoMachine : PySem.W.subIn K (.ref C_NoMachine) (.ref C_NoMachine) = some true
  t_NoMachine : PySem.W.typeIn K (.ref C_NoMachine) = some (.type "type")
  s_NoText_NoMachine : PySem.W.subIn K (.ref C_NoText) (.ref C_NoMachine) = some false
  sn_NoMachine : PySem.W.subIn K (.type "NoneType") (.ref C_NoMachine) = some false
  i_NoText : PySem.W.isClsIn K C_NoText = true
  se_NoText : PySem.W.subIn K (.ref C_NoText) (.ref C_NoText) = some true
  s_NoText_NoText : PySem.W.subIn K (.ref C_NoText) (.ref C_NoText) = some true
  sn_NoText : PySem.W.subIn K (.type "NoneType") (.ref C_NoText) = some false
  i_NoName : PySem.W.isClsIn K C_NoName = true
  se_NoName : PySem.W.subIn K (.ref C_NoName) (.ref C_NoName) = some true
  t_NoName : PySem.W.typeIn K (.ref C_NoName) = some (.type "type")
  s_NoText_NoName : PySem.W.subIn K (.ref C_NoText) (.ref C_NoName) = some false
  sn_NoName : PySem.W.subIn K (.type "NoneType") (.ref C_NoName) = some false
  i_Twice : PySem.W.isClsIn K C_Twice = true
  se_Twice : PySem.W.subIn K (.ref C_Twice) (.ref C_Twice) = some true
  t_Twice : PySem.W.typeIn K (.ref C_Twice) = some (.type "type")
  s_NoText_Twice : PySem.W.subIn K (.ref C_NoText) (.ref C_Twice) = some false
  sn_Twice : PySem.W.subIn K (.type "NoneType") (.ref C_Twice) = some false
  i_Full : PySem.W.isClsIn K C_Full = true
  se_Full : PySem.W.subIn K (.ref C_Full) (.ref C_Full) = some true
  t_Full : PySem.W.typeIn K (.ref C_Full) = some (.type "type")
  s_NoText_Full : PySem.W.subIn K (.ref C_NoText) (.ref C_Full) = some false
  sn_Full : PySem.W.subIn K (.type "NoneType") (.ref C_Full) = some false
  i_NoSuch : PySem.W.isClsIn K C_NoSuch = true
  se_NoSuch : PySem.W.subIn K (.ref C_NoSuch) (.ref C_NoSuch) = some true
  t_NoSuch : PySem.W.typeIn K (.ref C_NoSuch) = some (.type "type")
  s_NoText_NoSuch : PySem.W.subIn K (.ref C_NoText) (.ref C_NoSuch) = some false
  sn_NoSuch : PySem.W.subIn K (.type "NoneType") (.ref C_NoSuch) = some false
  i_NoPaper : PySem.W.isClsIn K C_NoPaper = true
  se_NoPaper : PySem.W.subIn K (.ref C_NoPaper) (.ref C_NoPaper) = some true
  t_NoPaper : PySem.W.typeIn K (.ref C_NoPaper) = some (.type "type")
  s_NoText_NoPaper : PySem.W.subIn K (.ref C_NoText) (.ref C_NoPaper) = some false
  sn_NoPaper : PySem.W.subIn K (.type "NoneType") (.ref C_NoPaper) = some false
  i_NoDeed : PySem.W.isClsIn K C_NoDeed = true
  se_NoDeed : PySem.W.subIn K (.ref C_NoDeed) (.ref C_NoDeed) = some true
  t_NoDeed : PySem.W.typeIn K (.ref C_NoDeed) = some (.type "type")
  s_NoText_NoDeed : PySem.W.subIn K (.ref C_NoText) (.ref C_NoDeed) = some false
  sn_NoDeed : PySem.W.subIn K (.type "NoneType") (.ref C_NoDeed) = some false
  i_NoSize : PySem.W.isClsIn K C_NoSize = true
  se_NoSize : PySem.W.subIn K (.ref C_NoSize) (.ref C_NoSize) = some true
  t_NoSize : PySem.W.typeIn K (.ref C_NoSize) = some (.type "type")
  s_NoText_NoSize : PySem.W.subIn K (.ref C_NoText) (.ref C_NoSize) = some false
  sn_NoSize : PySem.W.subIn K (.type "NoneType") (.ref C_NoSize) = some false
  i_MillError : PySem.W.isClsIn K C_MillError = true
  se_MillError : PySem.W.subIn K (.ref C_MillError) (.ref C_MillError) = some true
  sn_MillError : PySem.W.subIn K (.type "NoneType") (.ref C_MillError) = some false
  s_NoText_ValueError : PySem.W.subIn K (.ref C_NoText) (.type "ValueError") = some true
theorem ec_NoText {K : PySem.W.Frag} {mg : Str → Option Value} (t : Tx K mg) : ExcC K t.C_NoText := ⟨t.hg_NoText, t.hk_NoText, t.b_NoText, t.h_NoText, t.ha_NoText, t.hn_, t.ht_, t.hm_NoText⟩
theorem em_NoText_MillError {K : PySem.W.Frag} {mg : Str → Option Value} (t : Tx K mg) : PySem.W.exmOne K (.ref t.C_NoText) (.ref t.C_MillError) = some true := PySem.W.exm_ref t.b_MillError t.h_MillError t.t_MillError t.s_NoText_MillError
section
variable {P : Program} {w : World} {K : PySem.W.Frag} {mg : Str → Option Value} {base : Heap}
/-! ### draws -/
def sp_L_mixed : Sp := fun vs H Q _ => ∃ c k : Int, vs = [.int c, .int k] ∧ 0 ≤ k ∧ k < 1000 ∧ ∀ n : Int, 0 ≤ n → n < 2147483587 → Q (.int n) H
theorem ok_L_mixed (t : Tx K mg) : FnOk P w K mg base CX0 1 t.a_L_mixed t.fd_L_mixed ["_law_cell", "_law_k"] sp_L_mixed := by
  refine t.F_L_mixed.ok sc_L_mixed (fun vs H Q E h => ?_) (fun cdv A outer s H vs Q E hr h => ?_)
  · obtain ⟨c, k, rfl, _⟩ := h
    rfl
  · obtain ⟨c, k, rfl, k0, k1, q⟩ := h
    refine ⟨_, (pss_cons (ps_set (i := 2) sc_L_mixed.nd rfl (by first | exact Or.inl rfl | exact Or.inr rfl) (pe_op op_mod (pv 0) (pe_op op_pow pe_int pe_int)))
      (pss_cons (ps_set (i := 3) sc_L_mixed.nd rfl (by first | exact Or.inl rfl | exact Or.inr rfl) (pe_op op_mod (pe_op op_mul (pe_op op_add (pe_op op_add (pe_op op_add (pe_op op_mul (pv 2) (pv 2)) (pe_op op_mul pe_int (pv 2))) (pe_op op_mul pe_int (pv 1))) pe_int) pe_int) pe_int))
      (pss_one (ps_ret (pe_op op_mod (pe_op op_add (pe_op op_mul (pv 3) (pv 3)) pe_int) pe_int))))), ?_⟩
    have e15 : (10 : Int) ^ (15 : Int).toNat = 1000000000000000 := by decide
    refine ⟨_, rfl, _, _, rfl, rfl, ⟨by decide, by decide, by decide⟩, _, _, rfl, rfl, (by show (0 : Int) < 10 ^ (15 : Int).toNat; decide), ?_⟩
    rw [e15]
    have h0 : (0 : Int) ≤ c % 1000000000000000 := Int.emod_nonneg _ (by decide)
    have h1 : c % 1000000000000000 < 1000000000000000 := Int.emod_lt_of_pos _ (by decide)
    generalize c % 1000000000000000 = r at h0 h1
    refine ⟨_, rfl, _, rfl, _, _, rfl, rfl, .inl ⟨by omega, by omega⟩, _, rfl, _, _, rfl, rfl, .inl ⟨by decide, by decide⟩, _, _, rfl, rfl, _, rfl, _, _, rfl, rfl, .inl ⟨by decide, by decide⟩, _, _, rfl, rfl, _, _, rfl, rfl,
      _, _, rfl, rfl, .inr ⟨by decide, by decide⟩, _, _, rfl, rfl, (by show (0 : Int) < 2147483629; decide), ?_⟩
    have g0 := Int.emod_nonneg ((r * r + 3 * r + 7919 * k + 1) * 48271) (show (2147483629 : Int) ≠ 0 by decide)
    have g1 := Int.emod_lt_of_pos ((r * r + 3 * r + 7919 * k + 1) * 48271) (show (0 : Int) < 2147483629 by decide)
    generalize (r * r + 3 * r + 7919 * k + 1) * 48271 % 2147483629 = n at g0 g1
    refine ⟨_, rfl, _, rfl, _, _, rfl, rfl, .inl ⟨by omega, by omega⟩, _, _, rfl, rfl, _, _, rfl, rfl, (by show (0 : Int) < 2147483587; decide), ?_⟩
    exact q _ (Int.emod_nonneg _ (by decide)) (Int.emod_lt_of_pos _ (by decide))
/-- the purse: two numbers that aren't below 0 -/
def PurseO (a b : Int) : HO := .lst [.int a, .int b]
def sp_L_purse (K : PySem.W.Frag) : Sp := fun vs H Q _ => ∃ (l : Addr) (ns : List Int), vs = [.ref l] ∧ SqL K H l (ns.map V.int) ∧ ns.length ≤ 63 ∧
  ∀ (a b : Int) (p : Addr) (H' : Hp), 0 ≤ a → 0 ≤ b → Same H H' → H p = none → H' p = some (PurseO a b) → Q (.ref p) H'
theorem ok_L_purse (t : Tx K mg) : FnOk P w K mg base CX0 2 t.a_L_purse t.fd_L_purse ["_law_script"] (sp_L_purse K) := by
  refine t.F_L_purse.ok sc_L_purse (fun vs H Q E h => ?_) (fun cdv A outer s H vs Q E hr h => ?_)
  · obtain ⟨l, ns, rfl, _⟩ := h
    rfl
  · obtain ⟨l, ns, rfl, hS, hn, q⟩ := h
    refine ⟨_, (pss_cons (ps_set (i := 1) sc_L_purse.nd rfl (by first | exact Or.inl rfl | exact Or.inr rfl) (pe_op op_cat (pe_slice sl_list (pv 0) po_none (po_some pe_int)) (pe_lst (pa_cons pe_int pa_nil))))
      (pss_cons (ps_set (i := 2) sc_L_purse.nd rfl (by first | exact Or.inl rfl | exact Or.inr rfl) pe_int)
      (pss_cons (ps_for PassesOwn.never rfl (pi_range1 (by rfl) t.n_range (pa_cons pe_int pa_nil)) (pg_name (i := 3) sc_L_purse.nd rfl (by first | exact Or.inl rfl | exact Or.inr rfl)) (pss_one (ps_set (i := 2) sc_L_purse.nd rfl (by first | exact Or.inl rfl | exact Or.inr rfl) (pe_op op_add (pe_op op_mul (pv 2) pe_int) (pe_call (ok_L_mixed t) (hr.mono (by decide)) (by rfl) t.m_L_mixed t.F_L_mixed.kp t.b_L_mixed .nil pass0 (pa_cons (pe_ix ix_list (pv 1) (pe_op op_mod (pv 3) (pe_callB (id := "len") call_lenQ (by rfl) t.n_len (by decide +kernel) (pa_cons (pv 1) pa_nil))) (fun _ _ => rfl)) (pa_cons (pv 3) pa_nil)))))))
      (pss_cons (ps_if (pt_cmpR op_ge (pe_callB (id := "abs") call_abs (by rfl) t.n_abs (by decide +kernel) (pa_cons (pe_ix ix_list (pv 1) pe_int (fun _ _ => rfl)) pa_nil)) (pe_op op_pow pe_int pe_int) (nomark _)) (pss_one (ps_ret (pe_lst (pa_cons (pe_callB (id := "abs") call_abs (by rfl) t.n_abs (by decide +kernel) (pa_cons (pe_ix ix_list (pv 1) pe_int (fun _ _ => rfl)) pa_nil)) (pa_cons (pv 2) pa_nil))))) pss_nil)
      (pss_one (ps_ret (pe_lst (pa_cons (pv 2) (pa_cons (pv 2) pa_nil))))))))), ?_⟩
    refine ⟨_, rfl, _, rfl, l, _, rfl, hS, fun p np => ?_⟩
    rw [cut_63 hn]
    have e0 : ([V.int 0] : List V) = [(0 : Int)].map V.int := rfl
    refine ⟨by show 1 ≤ sizeLine; decide, fun p2 np2 => ⟨p, p2, _, _, rfl, rfl, (by rw [upd_ne (ne_of_none upd_same np2)]; exact upd_same), upd_same, (by show _ + 1 ≤ _; rw [List.length_map]; exact Nat.le_trans (Nat.add_le_add_right hn 1) (by decide)), fun p3 np3 => ?_⟩⟩
    rw [e0, ← List.map_append]
    have s3 : Same H (upd (upd (upd H p (.lst (ns.map V.int))) p2 (.lst ([(0 : Int)].map V.int))) p3 (.lst ((ns ++ [0]).map V.int))) := sm_new (sm_new (sm_new (Same.refl H) np) np2) np3
    have hl : 0 < (ns ++ [0]).length := by simp
    generalize ec : ns ++ [0] = cs at s3 hl
    have h3 : (upd (upd (upd H p (.lst (ns.map V.int))) p2 (.lst ([(0 : Int)].map V.int))) p3 (.lst (cs.map V.int))) p3 = some (.lst (cs.map V.int)) := upd_same
    generalize upd (upd (upd H p (.lst (ns.map V.int))) p2 (.lst ([(0 : Int)].map V.int))) p3 (.lst (cs.map V.int)) = H3 at s3 h3
    refine ⟨64, rfl, by decide, by decide, for_range (lo := 0) (n := 64) (fun i σ H2 => ∃ (n : Int) (v : Option V), σ = [some (.ref l), some (.ref p3), some (.int n), v] ∧ H2 = H3 ∧ 0 ≤ n) ⟨1, none, rfl, rfl, by decide⟩ ?_ ?_⟩
    · rintro i σ H2 hi ⟨n, v, rfl, rfl, hn0⟩
      refine ⟨_, rfl, _, _, rfl, rfl, .inr ⟨by decide, by decide⟩, ?_⟩
      have hm := Int.emod_nonneg (0 + (i : Int)) (show ((cs.map V.int).length : Int) ≠ 0 by rw [List.length_map]; omega)
      have hm1 := Int.emod_lt_of_pos (0 + (i : Int)) (show (0 : Int) < ((cs.map V.int).length : Int) by rw [List.length_map]; omega)
      have hj : (((0 + (i : Int)) % ((cs.map V.int).length : Int)).toNat : Int) = (0 + (i : Int)) % ((cs.map V.int).length : Int) := Int.toNat_of_nonneg hm
      have hj1 : ((0 + (i : Int)) % ((cs.map V.int).length : Int)).toNat < cs.length := by rw [List.length_map] at hm1 ⊢; omega
      refine ⟨_, rfl, _, rfl, _, rfl, p3, _, rfl, .inl (SqL.of h3), _, _, rfl, rfl, (by rw [List.length_map]; omega), p3, _, _, _, rfl, rfl, SqL.of h3, at_of hj.symm (by rw [List.getElem?_map, List.getElem?_eq_getElem hj1]; rfl), ?_⟩
      refine ⟨_, rfl, _, _, rfl, by omega, by omega, fun m m0 m1 => ⟨_, _, rfl, rfl, ?_⟩⟩
      exact ⟨_, _, rfl, rfl, by omega⟩
    · rintro σ H2 ⟨n, v, rfl, rfl, hn0⟩
      have h0 : (cs.map V.int)[0]? = some (.int (cs[0])) := by rw [List.getElem?_map, List.getElem?_eq_getElem hl]; rfl
      refine ⟨_, rfl, p3, _, _, _, rfl, rfl, SqL.of h3, atI_nat (j := 0) h0, _, rfl, _, _, rfl, rfl, ⟨by decide, by decide, by decide⟩, _, _, rfl, rfl, _, rfl, ?_⟩
      refine ite2 (fun c => ?_) (fun c => ?_)
      · refine ⟨_, rfl, p3, _, _, _, rfl, rfl, SqL.of h3, atI_nat (j := 0) h0, _, rfl, _, rfl, by show 2 ≤ sizeLine; decide, fun q0 nq => ?_⟩
        exact q _ _ q0 _ (by split <;> omega) hn0 (sm_new s3 nq) (s3.free nq) upd_same
      · refine ⟨_, rfl, _, rfl, by show 2 ≤ sizeLine; decide, fun q0 nq => ?_⟩
        exact q _ _ q0 _ hn0 hn0 (sm_new s3 nq) (s3.free nq) upd_same
def sp_L_draw : Sp := fun vs H Q _ => ∃ (p : Addr) (a b n : Int), vs = [.ref p, .int n] ∧ H p = some (PurseO a b) ∧ 0 ≤ a ∧ 0 ≤ b ∧ 0 < n ∧ n < 2535301200456458802993406410752 ∧
  ∀ d a' b' : Int, 0 ≤ d → d < n → 0 ≤ a' → 0 ≤ b' → Q (.int d) (upd H p (PurseO a' b'))
theorem ok_L_draw (t : Tx K mg) : FnOk P w K mg base CX0 1 t.a_L_draw t.fd_L_draw ["_law_purse_here", "_law_out_of"] sp_L_draw := by
  refine t.F_L_draw.ok sc_L_draw (fun vs H Q E h => ?_) (fun cdv A outer s H vs Q E hr h => ?_)
  · obtain ⟨p, a, b, n, rfl, _⟩ := h
    rfl
  · obtain ⟨p, a, b, n, rfl, hp, ha, hb, n0, n1, q⟩ := h
    refine ⟨_, (pss_cons (ps_if (pt_cmpR op_eq (pe_ix ix_list (pv 0) pe_int (fun _ _ => rfl)) pe_int (nomark _)) (pss_one (ps_asg (pe_ix ix_list (pv 0) pe_int (fun _ _ => rfl)) (pg_sub (pv 0) pe_int set_list))) pss_nil)
      (pss_cons (ps_set (i := 2) sc_L_draw.nd rfl (by first | exact Or.inl rfl | exact Or.inr rfl) (pe_op op_mod (pe_ix ix_list (pv 0) pe_int (fun _ _ => rfl)) (pv 1)))
      (pss_cons (ps_asg (pe_op op_fdivW (pe_ix ix_list (pv 0) pe_int (fun _ _ => rfl)) (pv 1)) (pg_sub (pv 0) pe_int set_list))
      (pss_one (ps_ret (pv 2)))))), ?_⟩
    refine ⟨_, rfl, p, _, _, _, rfl, rfl, SqL.of hp, atI_nat (j := 0) rfl, rfl, _, rfl, ?_⟩
    refine ite2 (fun c => ?_) (fun c => ?_)
    · refine ⟨_, rfl, p, _, _, _, rfl, rfl, SqL.of hp, atI_nat (j := 1) rfl, _, rfl, p, _, _, 0, rfl, rfl, hp, rfl, ?_⟩
      refine ⟨_, rfl, p, _, _, _, rfl, rfl, SqL.of upd_same, atI_nat (j := 0) rfl, _, rfl, _, _, rfl, rfl, n0, ?_⟩
      refine ⟨_, rfl, p, _, _, _, rfl, rfl, SqL.of upd_same, atI_nat (j := 0) rfl, _, rfl, _, _, rfl, rfl, wide_div n0 (b := 101) (by have e : (2 : Nat) ^ 101 = 2535301200456458802993406410752 := rfl; rw [e]; omega) (by decide) (by decide), _, rfl, p, _, _, 0, rfl, rfl, upd_same, rfl, _, rfl, ?_⟩
      rw [upd_upd]
      exact q _ _ _ (Int.emod_nonneg _ (by omega)) (Int.emod_lt_of_pos _ n0) (Int.ediv_nonneg hb (by omega)) hb
    · refine ⟨_, rfl, p, _, _, _, rfl, rfl, SqL.of hp, atI_nat (j := 0) rfl, _, rfl, _, _, rfl, rfl, n0, ?_⟩
      refine ⟨_, rfl, p, _, _, _, rfl, rfl, SqL.of hp, atI_nat (j := 0) rfl, _, rfl, _, _, rfl, rfl, wide_div n0 (b := 101) (by have e : (2 : Nat) ^ 101 = 2535301200456458802993406410752 := rfl; rw [e]; omega) (by decide) (by decide), _, rfl, p, _, _, 0, rfl, rfl, hp, rfl, _, rfl, ?_⟩
      exact q _ _ _ (Int.emod_nonneg _ (by omega)) (Int.emod_lt_of_pos _ n0) (Int.ediv_nonneg ha (by omega)) hb
/-! ### a list comprehension whose element may let an exception out -/
section
variable {X : Cx}
/-- an exception in our air goes out of a block whose names lie at C -/
theorem XE.block {W : WX} {C : Addr} {ce : Env} {m : Str → Option Value} {u : Value} {s' : Shared} (hst : X.stack = X.env :: X.outer) (hfr : X.env.frame = some X.env.locals) (tk : Takes X W)
    (x : XE X (fun cls d σ H => W cls d σ H ∧ H C = none) u s') (hcf : ce.frame = X.env.frame) (hcl : ce.locals = C) (hn : s'.heap.Ns C m)
    (cL : C ≠ X.env.locals) (cS : C ∉ frs X.stack) (cE : C ∈ X.ex ∨ X.s_0.heap.objs.size ≤ C) (cC : ∀ y c, X.env.cells.lookup y = some c → c ≠ C) (cP : ∀ p ∈ X.pn, p.1 ≠ C) :
    notedBy (model X.prog X.w) X.A ce (CompFails (model X.prog X.w) X.A X.xe ce) u s' := by
  obtain ⟨a, B, sI, pI, σI, HI, cls, d, rfl, J, nb, up, sky, na, os, ag, hw, hHC⟩ := x
  have hA : X.A.frames = some (X.env :: X.outer) := J.ok.frames.trans (congrArg some hst)
  have fin : ∀ h1, HandSPX.HeldZ B X.stack a (Zc cls d) X.env.locals h1 → s'.heap.UpToSlots h1 → CompFails (model X.prog X.w) X.A X.xe ce (.ref a) { s' with heap := h1 } := fun h1 hh up1 => by
    obtain ⟨b1, bn, fr, oe, vs, T, oT, ts, he, hz, hd, hv, hnT, hTe, hT, hdT, h3⟩ := hh
    refine ⟨m, by rw [hcl]; exact hn.upToSlots up1, fun h2 m2 hn2 hs2 => ?_⟩
    rw [hcl] at hn2 hs2
    obtain ⟨oC, es, ep, hoC, hdC, _⟩ := hn.upToSlots up1
    have aC : a ≠ C := fun z => by
      rw [z, hoC] at he
      cases he
      rw [hdC] at hd; cases hd
    have tC : T ≠ C := fun z => by
      rw [z, hoC] at hT
      cases hT
      rw [hdC] at hdT; cases hdT
    have keep2 : ∀ b o, b ≠ C → h1.get? b = some o → h2.get? b = some o := fun b o hb e => (hs2.2 b hb).trans e
    have none1 : ∀ b, B.get? b = none → (PySem.W.hideAll B [C]).get? b = none := fun b e => by
      cases q : (PySem.W.hideAll B [C]).get? b with
      | none => rfl
      | some o =>
        rw [PySem.W.of_hideAll _ q] at e; cases e
    have ofC : ∀ {h : Heap} {b o}, (PySem.W.hideAll h [C]).get? b = some o → b ≠ C := fun {h b o} e z => by
      rw [z, PySem.W.hideAll_none [C] List.mem_cons_self] at e; cases e
    have held : HandSPX.HeldZ (PySem.W.hideAll B [C]) X.stack a (Zc cls d) X.env.locals h2 :=
      ⟨fun b o e => keep2 b o (ofC e) (b1 b o (PySem.W.of_hideAll _ e)), none1 a bn, funFrames_none (Heap.FunFrames.sameBut hs2 hn2 fr) fun L hL => none1 L (by
          obtain ⟨k, _⟩ := fr.mem hL
          exact k), oe, vs, T, oT, ts, keep2 a _ aC he, hz, hd, hv, none1 T hnT, hTe, keep2 T _ tC hT, hdT, h3⟩
    unfold passOn
    refine wpAny_bind (wpAny_field (keep2 a _ aC he) hd hv ?_)
    rw [if_neg (show ¬ ((Value.ref T == Value.none) = true) from by simp), hcf, hfr]
    refine wpAny_bind (HandSPX.setFlight_onZ held fun h4 held4 up4 => wpAny_throw ?_)
    refine tk _ _ ⟨a, PySem.W.hideAll B [C], { sI with heap := PySem.W.hideAll sI.heap [C] }, [], σI, HI, cls, d, rfl, ?_, fun b o e hb => ?_, fun b o e nf => ?_, .inr (.inr held4), na, os, ag, hw⟩
    · exact (J.unpinned (pins := [])).turned (t' := sI.toks) (fun b o hb e => PySem.W.hideAll_get [C] e (by simpa using hb)) hHC cL cE cC (fun p hp => cP p (by simpa using hp))
    · exact PySem.W.hideAll_get [C] (nb b o (PySem.W.of_hideAll _ e) hb) (by simpa using ofC e)
    · obtain ⟨sl1, e1⟩ := up b o (PySem.W.of_hideAll _ e) nf
      obtain ⟨sl2, e2⟩ := up1 b _ e1 nf
      have e3 := keep2 b _ (ofC e) e2
      obtain ⟨sl3, e4⟩ := up4 b _ e3 nf
      exact ⟨sl3, e4⟩
  show wpAny _ X.A (noteFrame (.ref a) ce) _ _ s'
  rw [noteFrame_env _ hcf]
  rw [hst] at sky fin
  rcases sky with ⟨hB, hn0, hl, oe, vs, he, hz, hd, h1⟩ | fl | hh
  · exact HandSPX.look_newZ Zc.steady hA hl hfr he hB hn0 hd h1 hz fin
  · exact HandSPX.looks_onZ Zc.steady hA hfr fl fin
  · exact HandSPX.againZ hfr hh.2.2.2 (fin s'.heap hh (Heap.UpToSlots.refl _))
/-- what a block's element lets out: a call's exception, from a state of the block -/
def BlkX (X Y : Cx) (EX : XK) : Value → Shared → Prop := fun u s' => ∃ (pY : List (Addr × Obj)) (σY : St) (H1 : Hp) (s0 : Shared), Inv Y pY σY H1 s0 ∧ L2.CX X.prog X.w X.stack H1 s0 EX u s'
theorem lcx_core {pins : List (Addr × Obj)} {s : Shared} {σ : St} {H : Hp} {Q : VK} {EX : XK} {elt tg iter : Expr} {ifs : List Expr} {scope : Scope} {own : List (Str × Nat)} {pos pos' : Pos} {wi : TI} {g : TG} {tt : TT} {te : TE} {use : Option (Value → Sem Unit)} {Qf : Value → Shared → Prop}
    (hst : X.stack = X.env :: X.outer) (hfr : X.env.frame = some X.env.locals) (tk : Takes X (fun cls d _ H => EX cls d H)) (hc : X.calm = true) (hN : X.N.Nodup) (I : Inv X pins σ H s) (hi : L2.PI X tg iter wi) (ok : BlkOk X.N X.env.scope scope own)
    (hg : ∀ (s : Shared) (H : Hp) (C : Addr) (cl : List (Str × Addr)) (fp : List Addr), PG (X.blk s H scope (compEnvC scope cl C X.env) fp) tg g) (ht : ∀ (s : Shared) (H : Hp) (C : Addr) (cl : List (Str × Addr)) (fp : List Addr), PTs (X.blk s H scope (compEnvC scope cl C X.env) fp) ifs tt)
    (he : ∀ (s : Shared) (H : Hp) (C : Addr) (cl : List (Str × Addr)) (fp : List Addr) (xe : Value → Shared → Prop), (∀ σ, PassesAt (L2.CX X.prog X.w) ((X.blk s H scope (compEnvC scope cl C X.env) fp).wish xe) σ EX) → PE ((X.blk s H scope (compEnvC scope cl C X.env) fp).wish xe) elt te)
    (hs : ∀ x, foldedSetIterable iter X.env x = pure x) (h : tLc wi g tt te (own.map (·.2)) σ H Q)
    (fin : ∀ (D : Addr) (s' : Shared) (m : Str → Option Value) (H' : Hp) (ce : Env), Inv X pins σ H' s' → Q (.ref D) H' → s'.heap.Ns ce.locals m → FpOk X pins H' ce.locals → compEnds (model X.prog X.w) X.A X.xe use Qf (.ref D) ce (.ok .next) s') :
    wpAny (model X.prog X.w) X.A (comprehension (.ListComp elt [⟨tg, iter, ifs, 0⟩] scope pos) scope X.env pos' (newList []) false (eval iter X.env) use) Qf X.xe s := by
  have frees : ∀ y ∈ scope.names, y.2 = .free → ∃ c, X.env.cells.lookup y.1 = some c := fun y my yf => (ok.free y my yf).elim (fun k => I.ok.has _ (.inl k)) fun k => I.ok.has _ (.inr k)
  refine comprehension_at (use := use) rfl hs (closure_ok frees) ok.kind (fun y my yl => by rw [ok.uniq y my, yl]) (thn (hi.run pins s σ H _ I h) fun v1 t1 p1 => thn p1 fun v2 t2 p2 => ?_)
  obtain ⟨it, fp, tn, J, H2, rfl, I2, T, st2, f2, q⟩ := p2
  refine wpAny_newObj_type (newEnv_comp ?_) (by show 0 ≤ sizeLine; decide)
  -- the list
  obtain ⟨D, eD⟩ : ∃ D, t2.heap.objs.size = D := ⟨_, rfl⟩
  obtain ⟨W, ⟨n0, w0⟩, turn⟩ := q D (I2.hok.fresh (Nat.le_of_eq eD))
  obtain ⟨sL, eL⟩ : ∃ sL : Shared, ({ t2 with heap := t2.heap.push { cls := .type "list", data := .seq ([] : List Value).toArray } } : Shared) = sL := ⟨_, rfl⟩
  have hL : sL.heap = t2.heap.push { cls := .type "list", data := .seq ([] : List Value).toArray } := by rw [← eL]
  have toL : ∀ b o, t2.heap.get? b = some o → sL.heap.get? b = some o := fun b o z => by rw [hL]; exact Heap.get?_push_of_some _ z
  have IL : Inv X pins σ (upd H2 D (.lst [])) sL := by
    subst eL
    exact I2.laid (t' := t2.toks) (fun b o z => Heap.get?_push_of_some _ z) (Nat.le_of_eq eD) ⟨Nat.zero_le _, [], 0, .nil, by rw [← eD]; exact Heap.get?_push_size _ rfl⟩
  have fL : ∀ b ∈ fp, FpOk X pins (upd H2 D (.lst [])) b ∧ b < sL.heap.objs.size := fun b hb => by
    obtain ⟨o, z, _⟩ := T.obj _ _ st2 b hb
    have lt := Heap.lt_size z
    exact ⟨⟨by rw [upd_ne (by rw [← eD]; exact Nat.ne_of_lt lt)]; exact (f2 b hb).1, (f2 b hb).2⟩, by rw [hL, Heap.size_push]; exact Nat.lt_succ_of_lt lt⟩
  -- the block
  have IB := block_start IL ok hN fL
  have pgs := hg sL (upd H2 D (.lst [])) sL.heap.objs.size (cellsFrom (sL.heap.objs.size + 1) scope.names (cloFrom X.env.cells scope.names [])) fp
  have pts := ht sL (upd H2 D (.lst [])) sL.heap.objs.size (cellsFrom (sL.heap.objs.size + 1) scope.names (cloFrom X.env.cells scope.names [])) fp
  have pes := he sL (upd H2 D (.lst [])) sL.heap.objs.size (cellsFrom (sL.heap.objs.size + 1) scope.names (cloFrom X.env.cells scope.names [])) fp
  rw [show ({ t2 with heap := t2.heap.push { cls := .type "list", data := .seq ([] : List Value).toArray } } : Shared) = sL from eL]
  have stL : tn 0 sL.heap := T.keep _ _ _ st2 fun b _ o z => toL b o z
  show codeAny _ _ (.compStart (.ListComp elt [⟨tg, iter, ifs, 0⟩] scope pos) 0 (.ref it) (.ref t2.heap.objs.size) (compEnvC scope (cellsFrom (sL.heap.objs.size + 1) scope.names (cloFrom X.env.cells scope.names [])) sL.heap.objs.size X.env)) (compEnds (model X.prog X.w) X.A X.xe use Qf (.ref t2.heap.objs.size) (compEnvC scope (cellsFrom (sL.heap.objs.size + 1) scope.names (cloFrom X.env.cells scope.names [])) sL.heap.objs.size X.env)) _
  rw [eD]
  obtain ⟨ce, ece⟩ : ∃ ce, compEnvC scope (cellsFrom (sL.heap.objs.size + 1) scope.names (cloFrom X.env.cells scope.names [])) sL.heap.objs.size X.env = ce := ⟨_, rfl⟩
  have ceL : ce.locals = sL.heap.objs.size := by subst ece; rfl
  have ceF : ce.frame = X.env.frame := by subst ece; rfl
  rw [ece] at IB pgs pts pes ⊢
  obtain ⟨HL, eHL⟩ : ∃ HL, upd H2 D (.lst []) = HL := ⟨_, rfl⟩
  rw [eHL] at IL IB pgs pts pes w0 fL
  obtain ⟨sB, eB⟩ : ∃ sB : Shared, ({ sL with heap := pushCells (sL.heap.push { cls := .type "dict", data := .dict #[] }) scope.names } : Shared) = sB := ⟨_, rfl⟩
  rw [eB] at IB ⊢
  have stB : tn 0 sB.heap := T.keep _ _ _ stL fun b _ o z => by rw [← eB]; exact pushCells_keeps _ _ _ _ (Heap.get?_push_of_some _ z)
  have errs : ∀ (e : Value) (s' : Shared), CompFails (model X.prog X.w) X.A X.xe ce e s' → compEnds (model X.prog X.w) X.A X.xe use Qf (.ref D) ce (.error e) s' := fun e s' z => by cases use <;> exact z
  have back : ∀ {pY : List (Addr × Obj)} {σY : St} {H1 : Hp} {s0 : Shared}, Inv (X.blk sL HL scope ce fp) pY σY H1 s0 → Inv X pins σ H1 s0 ∧ FpOk X pins H1 ce.locals := fun {pY σY H1 s0} I0 => by
    have n0 : H1 sL.heap.objs.size = none := by rw [← ceL]; exact I0.free
    exact ⟨IL.call' (ch := fp) I0.os I0.base I0.hok I0.bare fun b hb => ⟨(fL b hb).1.2.2.2.1, (fL b hb).1.2.1, (fL b hb).1.2.2.2.2.1, (fL b hb).1.2.2.2.2.2⟩, by rw [ceL]; exact IL.fpOk (Nat.le_refl _) n0⟩
  have goes : ∀ (u : Value) (s' : Shared), BlkX X (X.blk sL HL scope ce fp) EX u s' → notedBy (model X.prog X.w) X.A ce (fun e s'' => compEnds (model X.prog X.w) X.A X.xe use Qf (.ref D) ce (.error e) s'') u s' := by
    rintro u s' ⟨pY, σY, H1, s0, I0, c⟩
    obtain ⟨I1, fC⟩ := back I0
    obtain ⟨mC, ⟨oC, es, ep, hoC, r⟩, _⟩ := I0.loc
    obtain ⟨a, B, H', cls, d, rfl, fl, hok, ub, na, os, ag, hE⟩ := c
    have cS : ce.locals ∉ frs X.stack := fun hm => by
      rcases List.mem_cons.mp (IL.stkSub _ hm) with z | z
      · exact fC.2.1 z
      · exact fC.2.2.1 z
    have hC : s'.heap.get? ce.locals = some oC := fl.1 _ _ (ub.keep _ _ hoC fC.1 cS)
    have x : XE X (fun cls d _ H => EX cls d H ∧ H ce.locals = none) (.ref a) s' := XE.of_call (E := fun cls d H => EX cls d H ∧ H ce.locals = none) I1 (fun _ _ _ z => z) ⟨a, B, H', cls, d, rfl, fl, hok, ub, na, os, ag, hE, ub.free _ _ hoC fC.1⟩
    exact wpAny_mono (XE.block (m := mC) (W := fun cls d _ H => EX cls d H) hst hfr tk x ceF rfl ⟨oC, es, ep, hC, r⟩ fC.2.1 cS fC.2.2.2.1 fC.2.2.2.2.1 fun p hp => fC.2.2.2.2.2 p (List.mem_append_left _ hp)) (fun _ s'' z => errs _ s'' z) fun _ _ z => z
  have at_ : ∀ {σY : St} {H1 : Hp} {s0 : Shared}, Inv (X.blk sL HL scope ce fp) [] σY H1 s0 → (∀ b ∈ fp, H1 b = none) → ∀ b ∈ fp, FpOk (X.blk sL HL scope ce fp) [] H1 b := fun {σY H1 s0} I0 nb b hb =>
    ⟨nb b hb, (I0.ok.exf b hb).1, I0.ok.exfs b hb, .inl hb, (I0.ok.exf b hb).2, fun p hp => by simp at hp⟩
  refine codeAny_compStart_list ?_ (T.self X.A 0 _ _ _ stB ?_)
  all_goals
    refine compLoop_any (fun n s' => ∃ i H', Inv (X.blk sL HL scope ce fp) [] (wipe σ (own.map (·.2))) H' s' ∧ tn i s'.heap ∧ (∀ b ∈ fp, H' b = none) ∧ W i n H') ?_ n0 ⟨0, HL, IB, stB, fun b hb => (fL b hb).1.1, w0⟩
    rintro n s1 ⟨i, H1, I1, st1, nb1, w1⟩
    rcases turn i n H1 w1 with ⟨stop, qD⟩ | ⟨go, Nx, hNx, step⟩
    · refine thnF (T.done (X.blk sL HL scope ce fp) rfl rfl rfl hc i [] s1 _ H1 (fun _ _ => False) I1 (at_ I1 nb1) st1 stop) fun r s2 ⟨er, I2⟩ => ?_
      subst er
      obtain ⟨I3, fC⟩ := back I2
      obtain ⟨m, hm, _⟩ := I2.loc
      exact fin D s2 m H1 ce I3 qD hm fC
    · refine thnF (T.item (X.blk sL HL scope ce fp) rfl rfl rfl hc i [] s1 _ H1 (fun _ _ => False) I1 (at_ I1 nb1) st1 go) fun r s2 ⟨u, er, p2⟩ => ?_
      subst er
      refine thnF p2 fun _ s3 ⟨x, H3, I3, rx, yx, st3, nb3⟩ => ?_
      have IP := I3.pinned (at_ I3 nb3) (T.obj _ _ st3)
      refine thnF (pgs.run _ s3 _ H3 x u _ IP rx (step x H3 yx)) fun _ s4 ⟨σ4, H4, I4, hw, q4⟩ => ?_
      refine thnF (pts.run _ s4 σ4 H4 _ I4 q4) fun b s5 ⟨H5, I5, q5⟩ => ?_
      have next : ∀ {s' : Shared} {H' : Hp}, Inv (X.blk sL HL scope ce fp) ([] ++ pinsAt fp s3.heap) σ4 H' s' → Nx H' → ∃ m, m < n ∧ ∃ i H', Inv (X.blk sL HL scope ce fp) [] (wipe σ (own.map (·.2))) H' s' ∧ tn i s'.heap ∧ (∀ b ∈ fp, H' b = none) ∧ W i m H' := fun {s' H'} I' nx => by
        obtain ⟨m', lt, w'⟩ := hNx H' nx
        have pin : ∀ b ∈ fp, ∀ o, s3.heap.get? b = some o → s'.heap.get? b = some o ∧ H' b = none := fun b hb o z => by
          have k := I'.pin (b, o) (List.mem_append_right _ (List.mem_append_right _ (mem_pinsAt hb z)))
          exact ⟨k.1, k.2.1⟩
        refine ⟨m', lt, i + 1, H', (I'.unpinned (pins := [])).weak (by rw [← hw, wipe_length]) (fun j v z => (wipe_some (by rw [hw]; exact z)).1), T.keep _ _ _ st3 fun b hb o z => (pin b hb o z).1, fun b hb => ?_, w'⟩
        obtain ⟨o, z, _⟩ := T.obj _ _ st3 b hb
        exact (pin b hb o z).2
      cases b with
      | false => exact next I5 q5
      | true =>
        have pe := pes (BlkX X (X.blk sL HL scope ce fp) EX) fun σY pY H1 s0 e s' I0 c => ⟨pY, σY, H1, s0, I0.unwish, c⟩
        refine wpAny_mono (pe.run _ s5 σ4 H5 _ (I5.wish _) q5) (fun z s6 ⟨y, H6, I6, ry, acc, hD, hz, nx⟩ => ?_) fun e s6 z => goes e s6 z
        exact app_ok (X := X.blk sL HL scope ce fp) I6.unwish hD hz ry fun s7 I7 => next I7 nx
/-- the list as a value -/
theorem pe_lcX {EX : XK} {elt tg iter : Expr} {ifs : List Expr} {scope : Scope} {own : List (Str × Nat)} {pos : Pos} {wi : TI} {g : TG} {tt : TT} {te : TE} (tk : Takes X (fun cls d _ H => EX cls d H)) (hst : X.stack = X.env :: X.outer) (hfr : X.env.frame = some X.env.locals)
    (hc : X.calm = true) (hN : X.N.Nodup) (hi : L2.PI X tg iter wi) (ok : BlkOk X.N X.env.scope scope own)
    (hg : ∀ (s : Shared) (H : Hp) (C : Addr) (cl : List (Str × Addr)) (fp : List Addr), PG (X.blk s H scope (compEnvC scope cl C X.env) fp) tg g) (ht : ∀ (s : Shared) (H : Hp) (C : Addr) (cl : List (Str × Addr)) (fp : List Addr), PTs (X.blk s H scope (compEnvC scope cl C X.env) fp) ifs tt)
    (he : ∀ (s : Shared) (H : Hp) (C : Addr) (cl : List (Str × Addr)) (fp : List Addr) (xe : Value → Shared → Prop), (∀ σ, PassesAt (L2.CX X.prog X.w) ((X.blk s H scope (compEnvC scope cl C X.env) fp).wish xe) σ EX) → PE ((X.blk s H scope (compEnvC scope cl C X.env) fp).wish xe) elt te)
    (hs : ∀ x, foldedSetIterable iter X.env x = pure x := by intro _; rfl) : PE X (.ListComp elt [⟨tg, iter, ifs, 0⟩] scope pos) (tLc wi g tt te (own.map (·.2))) := by
  constructor
  intro pins s σ H Q I h
  rw [eval_ListComp]
  refine lcx_core hst hfr tk hc hN I hi ok hg ht he hs h fun D s1 m H1 ce I1 qD hm fC => ⟨m, hm, fun h2 same => ?_⟩
  exact ⟨.ref D, H1, I1.turned (t' := s1.toks) (fun b o hb z => (same.2 b hb).trans z) fC.1 fC.2.1 fC.2.2.2.1 fC.2.2.2.2.1 fC.2.2.2.2.2, rfl, qD⟩
/-- the list given to a local, on one line -/
theorem ps_setLcX {EX : XK} {i : Nat} {y : Str} {py : Pos} {elt tg iter : Expr} {ifs : List Expr} {scope : Scope} {own : List (Str × Nat)} {pos spos : Pos} {wi : TI} {g : TG} {tt : TT} {te : TE} (tk : Takes X (fun cls d _ H => EX cls d H)) (hst : X.stack = X.env :: X.outer) (hfr : X.env.frame = some X.env.locals)
    (hc : X.calm = true) (hN : X.N.Nodup) (hy : X.N[i]? = some y) (hyl : X.env.scope.names.lookup y = some .local) (hsw : swapsWith (.ListComp elt [⟨tg, iter, ifs, 0⟩] scope pos) (some (.Name y py)) spos.line X.env = pure true) (hi : L2.PI X tg iter wi) (ok : BlkOk X.N X.env.scope scope own)
    (hg : ∀ (s : Shared) (H : Hp) (C : Addr) (cl : List (Str × Addr)) (fp : List Addr), PG (X.blk s H scope (compEnvC scope cl C X.env) fp) tg g) (ht : ∀ (s : Shared) (H : Hp) (C : Addr) (cl : List (Str × Addr)) (fp : List Addr), PTs (X.blk s H scope (compEnvC scope cl C X.env) fp) ifs tt)
    (he : ∀ (s : Shared) (H : Hp) (C : Addr) (cl : List (Str × Addr)) (fp : List Addr) (xe : Value → Shared → Prop), (∀ σ, PassesAt (L2.CX X.prog X.w) ((X.blk s H scope (compEnvC scope cl C X.env) fp).wish xe) σ EX) → PE ((X.blk s H scope (compEnvC scope cl C X.env) fp).wish xe) elt te)
    (hs : ∀ x, foldedSetIterable iter X.env x = pure x := by intro _; rfl) : PS X (.Assign [.Name y py] (.ListComp elt [⟨tg, iter, ifs, 0⟩] scope pos) spos) (tAsg (tLc wi g tt te (own.map (·.2))) (gName i)) := by
  constructor
  intro pins s σ H D I h
  rw [exec_Assign_Name_used _ _ _ _ hsw]
  have h' : tLc wi g tt te (own.map (·.2)) σ H (fun x H1 => gName i x σ H1 D.nx) := h
  refine wpAny_bind (wpAny_standAt (wpAny_bind (wpAny_bind (thn (lcx_core (use := some (assign (.Name y py) X.env)) (Qf := fun _ s1 => SP X pins D .next s1) hst hfr tk hc hN I hi ok hg ht he hs h' fun L s1 m H1 ce I1 qL hm fC => ?_) fun _ s1 z => wpAny_pure (wpAny_pure z)))))
  show wpAny _ _ (assign (.Name y py) X.env (.ref L)) _ _ _
  refine wpAny_assign_Name (store_ok2 (v := V.ref L) I1 hN hy (.inl hyl) rfl (fun s2 I2 ⟨a, sb, ha⟩ => ?_) (.inr hyl))
  have apart : ce.locals ≠ a := fun z => by
    rcases ha with e | e
    · exact fC.2.1 (z.trans e)
    · exact fC.2.2.2.2.1 y a e z.symm
  exact ⟨m, hm.sameBut sb apart, fun h3 same => ⟨_, H1, I2.turned (t' := s2.toks) (fun b o hb z => (same.2 b hb).trans z) fC.1 fC.2.1 fC.2.2.2.1 fC.2.2.2.2.1 fC.2.2.2.2.2, qL⟩⟩
end
/-! ### entries read -/
def sp_mustB (C : Addr) : Sp := fun vs H Q E => ∃ b : Bool, vs = [.bl b] ∧ (b = true → Q .non H) ∧ (b = false → E (.ref C) none H)
theorem okx_must (t : Tx K mg) : FnOk P w K mg base (L2.CX P w) 1 t.a_must t.fd_must ["good"] (sp_mustB t.C_NoText) := by
  refine t.F_must.okX sc_must (fun vs H Q E h => ?_) (fun cdv A outer s H vs Q E hr h => ?_)
  · obtain ⟨b, rfl, _⟩ := h
    rfl
  · obtain ⟨b, rfl, q1, q2⟩ := h
    refine ⟨_, (pss_one (ps_if (pt_not (pt_val (pv 0))) (pss_one (ps_raise rfl (takes_of rfl rfl rfl rfl) (pmk_own PySem.F.excBase_ValueError t.x_NoText t.m_NoText t.k_NoText (raises_own t.b_NoText t.t_NoText) (by rfl)))) pss_nil)), ?_⟩
    refine ⟨_, rfl, _, rfl, ?_⟩
    cases b with
    | true => exact ifF rfl (q1 rfl)
    | false => exact ifT rfl (q2 rfl)
theorem figs_tl : ("0123456789" : Str).cps.toList = [48, 49, 50, 51, 52, 53, 54, 55, 56, 57] := by decide +kernel
theorem mem_figs {a : Nat} : a ∈ ("0123456789" : Str).cps.toList ↔ 48 ≤ a ∧ a < 58 := by
  rw [figs_tl]; simp only [List.mem_cons, List.not_mem_nil, or_false]; omega
theorem mem_abcd {c : Nat} : c ∈ ("ABCD" : Str).cps.toList ↔ 65 ≤ c ∧ c < 69 := by
  rw [show ("ABCD" : Str).cps.toList = [65, 66, 67, 68] by decide +kernel]; simp only [List.mem_cons, List.not_mem_nil, or_false]; omega
theorem occ_abcd {c : Nat} (h : 65 ≤ c ∧ c < 69) : Builtin.Str.occurrences ("ABCD" : Str) ⟨#[c]⟩ 0 ("ABCD" : Str).length 1 = (c - 65) :: [] := by
  have : c = 65 ∨ c = 66 ∨ c = 67 ∨ c = 68 := by omega
  rcases this with rfl | rfl | rfl | rfl <;> decide +kernel
/-! ### numbers as texts, their signs -/
theorem tl_pos {i : Int} (h : 0 ≤ i) : TL.tl (toString i : Str) = TL.numL i.natAbs := by
  obtain ⟨n, rfl⟩ := Int.eq_ofNat_of_zero_le h
  exact TL.tl_num n
theorem tl_neg {i : Int} (h : i < 0) : TL.tl (toString i : Str) = 45 :: TL.numL i.natAbs := by
  cases i with
  | ofNat n => exact absurd (Int.natCast_nonneg n) (by have h : (n : Int) < 0 := h; omega)
  | negSucc n =>
    show (Str.ofString (toString (Int.negSucc n))).cps.toList = _
    rw [PyProof.Rows.signs_ofString]
    show (String.append "-" (toString (n + 1))).toList.map Char.toNat = _
    rw [show (String.append "-" (toString (n + 1))) = "-" ++ toString (n + 1) from rfl, String.toList_append, List.map_append]
    show 45 :: (toString (n + 1)).toList.map Char.toNat = _
    have e := TL.tl_num (n + 1)
    rw [show TL.tl (Str.ofString (toString ((n + 1 : Nat) : Int))) = (Str.ofString (toString ((n + 1 : Nat) : Int))).cps.toList from rfl, PyProof.Rows.signs_ofString] at e
    have e : (toString (n + 1)).toList.map Char.toNat = TL.numL (n + 1) := e
    rw [e]
    rfl
theorem numL_head {n : Nat} (h : n ≠ 0) : ∃ c r, TL.numL n = c :: r ∧ c ≠ 48 := by
  induction n using Nat.strongRecOn with
  | _ n ih =>
    by_cases h1 : n < 10
    · rw [TL.numL_lt h1]
      exact ⟨48 + n, [], rfl, by omega⟩
    · obtain ⟨c, r, e, hc⟩ := ih (n / 10) (by omega) (by omega)
      rw [TL.numL_step (by omega), e]
      exact ⟨c, _, rfl, hc⟩
theorem int_back {i : Int} (h : i.natAbs < 1000000000) : PySem.intText? (toString i : Str) = some i := by
  have hl := TL.numL_len (k := 9) (n := i.natAbs) (by decide) h
  by_cases h0 : 0 ≤ i
  · obtain ⟨n, rfl⟩ := Int.eq_ofNat_of_zero_le h0
    exact TL.int_num (by show (TL.numL n).length ≤ 4300; have : (TL.numL n).length ≤ 9 := hl; omega)
  · have e := tl_neg (i := i) (by omega)
    have z := PySem.intText_neg (x := (toString i : Str)) e (TL.numL_digits _) (TL.numL_ne _) (by
      rw [TL.len_tl, e, List.length_cons]; omega)
    rw [z, TL.numL_val]
    congr 1
    omega
theorem tl_len {i : Int} {k : Nat} (hk : 0 < k) (h : i.natAbs < 10 ^ k) : (toString i : Str).length ≤ k + 1 := by
  have hl := TL.numL_len (k := k) (n := i.natAbs) hk h
  by_cases h0 : 0 ≤ i
  · rw [TL.len_tl, tl_pos h0]; omega
  · rw [TL.len_tl, tl_neg (by omega), List.length_cons]; omega
theorem tl_len31 {i : Int} (h : i.natAbs < 10000000000000000000000000000000) : (toString i : Str).length ≤ 32 := tl_len (k := 31) (by decide) (by
  rw [show (10 : Nat) ^ 31 = 10000000000000000000000000000000 by decide]; exact h)
theorem log31 {i : Int} (h : i.natAbs < 10000000000000000000000000000000) : i.natAbs.log2 < 1920 := by
  by_cases e : i.natAbs = 0
  · rw [e]; decide +kernel
  · have z := (Nat.log2_lt (k := 104) e).mpr (by
      rw [show (2 : Nat) ^ 104 = 20282409603651670423947251286016 by decide]; omega)
    omega
theorem no_sign {k : Nat} (hk : k ≠ 45 ∧ (k < 48 ∨ 57 < k)) (i : Int) : k ∉ TL.tl (toString i : Str) := PyProof.Rows.int_text_free' k hk i
/-! ### a place's text, by its signs -/
def figL (l : List Nat) : List Nat := if l.take 1 = [45] then l.drop 1 else l
def isF (c : Nat) : Bool := decide (48 ≤ c ∧ c < 58)
def placeL (l : List Nat) : Option Int :=
  if 1 ≤ (figL l).length ∧ (figL l).length ≤ 9 ∧ (figL l).all isF = true ∧ ((figL l).headD 0 ≠ 48 ∨ l = [48]) then some (if l.take 1 = [45] then -((PySem.NumText.digitsVal (figL l) : Nat) : Int) else ((PySem.NumText.digitsVal (figL l) : Nat) : Int)) else none
theorem figL_len (l : List Nat) : (figL l).length ≤ l.length := by
  unfold figL
  split
  · rw [List.length_drop]; omega
  · exact Nat.le_refl _
theorem minus_S : ("-" : Str) = SX.S [45] := by decide +kernel
theorem nought_S : ("0" : Str) = SX.S [48] := by decide +kernel
theorem cut1 (l : List Nat) : cutS (SX.S l) none (some 1) = SX.S (l.take 1) := by
  cases l with
  | nil => decide +kernel
  | cons c l =>
    have e : HT.sIx (SX.S (c :: l)).length (SX.S (c :: l)).length (some 1) = 1 := by
      rw [SX.S_len, List.length_cons]
      show min 1 (l.length + 1) = 1
      omega
    unfold cutS
    rw [e]
    rfl
theorem cutd (l : List Nat) : cutS (SX.S l) (some 1) none = SX.S (l.drop 1) := by
  cases l with
  | nil => decide +kernel
  | cons c l =>
    have e : HT.sIx (SX.S (c :: l)).length 0 (some 1) = 1 := by
      rw [SX.S_len, List.length_cons]
      show min 1 (l.length + 1) = 1
      omega
    have e2 : HT.sIx (SX.S (c :: l)).length (SX.S (c :: l)).length none = l.length + 1 := by
      rw [SX.S_len, List.length_cons]; rfl
    unfold cutS
    rw [e, e2]
    show (⟨((l).take (l.length + 1 - 1)).toArray⟩ : Str) = _
    rw [Nat.add_sub_cancel, List.take_length]
    rfl
theorem strS_iff {a b : List Nat} : V.str (SX.S a) = V.str (SX.S b) ↔ a = b := ⟨fun h => SX.S_inj (V.str.inj h), fun h => by rw [h]⟩
theorem minus_iff {l : List Nat} : V.str (SX.S (l.take 1)) = V.str "-" ↔ l.take 1 = [45] := by rw [minus_S]; exact strS_iff
theorem mk_S (x : Str) : ∃ l, x = SX.S l := ⟨TL.tl x, (TL.mk_tl x).symm⟩
theorem tl_S (l : List Nat) : TL.tl (SX.S l) = l := rfl
/-- int() of such a text -/
theorem int_place {l : List Nat} {i : Int} (h : placeL l = some i) : PySem.intText? (SX.S l) = some i ∧ (SX.S l).length ≤ 640 := by
  unfold placeL at h
  by_cases c : 1 ≤ (figL l).length ∧ (figL l).length ≤ 9 ∧ (figL l).all isF = true ∧ ((figL l).headD 0 ≠ 48 ∨ l = [48])
  case neg => rw [if_neg c] at h; cases h
  rw [if_pos c] at h
  obtain ⟨c1, c2, c3, _⟩ := c
  have hd : PySem.NumText.AllDigits (figL l) := fun x m => by
    have := of_decide_eq_true (List.all_eq_true.mp c3 x m)
    omega
  have hn : figL l ≠ [] := fun e => by rw [e] at c1; exact absurd c1 (by decide)
  rw [SX.S_len]
  by_cases m : l.take 1 = [45]
  · rw [if_pos m] at h
    have ef : figL l = l.drop 1 := by unfold figL; rw [if_pos m]
    have el : l = 45 :: l.drop 1 := by
      have := List.take_append_drop 1 l
      rw [m] at this
      exact this.symm
    rw [ef] at hd hn h c2
    have ll : l.length = (l.drop 1).length + 1 := congrArg List.length el
    refine ⟨?_, by omega⟩
    rw [PySem.intText_neg (x := SX.S l) (cs := l.drop 1) el hd hn (by rw [SX.S_len]; omega)]
    exact h
  · rw [if_neg m] at h
    have ef : figL l = l := by unfold figL; rw [if_neg m]
    rw [ef] at hd hn h c2
    refine ⟨?_, by omega⟩
    rw [PySem.intText_digits (x := SX.S l) hd hn (by rw [SX.S_len]; omega)]
    exact h
theorem gn13 {i : Nat} {v : V} {σ σ' : St} {H : Hp} {Q : St → Hp → Prop} (e : σ.set i (some v) = σ') (q : Q σ' H) : gName i v σ H Q := by
  subst e; exact q
theorem S_ix {l : List Nat} {j c : Nat} (h : (SX.S l).cps[j]? = some c) : l[j]? = some c := by
  rw [List.getElem?_toArray] at h; exact h
theorem isF_mem (c : Nat) : decide (c ∈ ("0123456789" : Str).cps.toList) = isF c := by
  unfold isF
  exact decide_eq_decide.mpr mem_figs
def sp_readP (C : Addr) : Sp := fun vs H Q E => ∃ (F : Hp) (l : List Nat), vs = [.str (SX.S l)] ∧ Same F H ∧ l.length ≤ 900000 ∧ (∀ i, placeL l = some i → ∀ H', Gr mu0 F H F H' → Q (.int i) H') ∧ (placeL l = none → ∀ H', Gr mu0 F H F H' → E (.ref C) none H')
theorem okx_read_place (t : Tx K mg) : FnOk P w K mg base (L2.CX P w) 2 t.a_read_place t.fd_read_place ["text"] (sp_readP t.C_NoText) := by
  refine t.F_read_place.okX sc_read_place (fun vs H Q E h => ?_) (fun cdv A outer s H vs Q E hr h => ?_)
  · obtain ⟨F, l, rfl, _⟩ := h
    rfl
  · obtain ⟨F, l, rfl, sF, hl, q1, q2⟩ := h
    refine ⟨_, (pss_cons (ps_set (i := 1) sc_read_place.nd rfl (by first | exact Or.inl rfl | exact Or.inr rfl) (pv 0))
      (pss_cons (ps_if (pt_cmpR op_eq (pe_slice sl_str (pv 0) po_none (po_some pe_int)) pe_str (nomark _)) (pss_one (ps_set (i := 1) sc_read_place.nd rfl (by first | exact Or.inl rfl | exact Or.inr rfl) (pe_slice sl_str (pv 0) (po_some pe_int) po_none))) pss_nil)
      (pss_cons (ps_expr (pe_callS (okx_must t) (hr.mono (by decide)) (by rfl) t.m_must t.F_must.kp t.b_must (fun σ => passAt (takes_of rfl rfl rfl rfl) σ) (pa_cons (pe_and (pe_chain op_le op_le pe_int (pe_callB (id := "len") call_len_str (by rfl) t.n_len (by decide +kernel) (pa_cons (pv 1) pa_nil)) pe_int) (pe_one (pe_callB (id := "all") (cr_all rfl) (by rfl) t.n_all (by decide +kernel) (pa_cons (pe_lc (own := [("sign", 2)]) (g := gName 2) (tt := tYes) rfl sc_read_place.nd (pi_str (pv 1)) (blkOk_by (N := N_read_place) (sc := defScope s_read_place) (by decide +kernel)) (fun _ _ _ _ _ => (pg_name (i := 2) sc_read_place.nd rfl (by first | exact Or.inl rfl | exact Or.inr rfl))) (fun _ _ _ _ _ => pts_nil) (fun _ _ _ _ _ => (pe_cmpR op_in_sign (pv 2) (pe_glob (v := .str "0123456789") (by rfl) t.m_FIGURES ⟨_, rfl⟩) (by rfl)))) pa_nil)))) pa_nil)))
      (pss_cons (ps_expr (pe_callS (okx_must t) (hr.mono (by decide)) (by rfl) t.m_must t.F_must.kp t.b_must (fun σ => passAt (takes_of rfl rfl rfl rfl) σ) (pa_cons (pe_or (pe_cmpR op_ne (pe_ix ix_str (pv 1) pe_int (fun _ _ => rfl)) pe_str (nomark _)) (pe_one (pe_cmpR op_eq (pv 0) pe_str (nomark _)))) pa_nil)))
      (pss_one (ps_ret (pe_callTy (T := "int") call_int_str (by rfl) t.n_int (by decide +kernel) (pa_cons (pv 0) pa_nil)))))))), ?_⟩
    have g0 : Gr mu0 F H F H := Gr.refl sF
    have lS : (SX.S l).length = l.length := SX.S_len l
    have lf : (SX.S (figL l)).length = (figL l).length := SX.S_len _
    have ll := figL_len l
    refine ⟨_, rfl, _, rfl, _, rfl, _, rfl, le_size (n := (SX.S l).length) (by omega), rfl, _, rfl, ?_⟩
    rw [cut1]
    refine ite2 (fun c => ?A) (fun c => ?B)
    case' A =>
      have hm := minus_iff.mp (of_decide_eq_true c)
      refine ⟨_, rfl, _, rfl, _, rfl, le_size (n := (SX.S l).length) (by omega), ?_⟩
      rw [cutd]
      refine gn13 (σ' := [some (V.str (SX.S l)), some (.str (SX.S (figL l))), none]) (by unfold figL; rw [if_pos hm]; rfl) ?_
    case' B =>
      have hm : ¬ l.take 1 = [45] := fun z => c (decide_eq_true (minus_iff.mpr z))
      unfold tNext
      generalize hs : List.set _ _ _ = σ1
      have hs : σ1 = [some (V.str (SX.S l)), some (.str (SX.S (figL l))), none] := by
        unfold figL
        rw [if_neg hm]; exact hs.symm
      subst hs
    all_goals
      refine ⟨_, rfl, _, rfl, le_size (n := (SX.S (figL l)).length) (by omega), _, _, rfl, rfl, _, rfl, ?_⟩
      by_cases c1 : 1 ≤ (figL l).length
      case neg => exact ifF (decide_eq_false (by omega)) ⟨_, rfl, ifF rfl ⟨false, rfl, (fun z => nomatch z), fun _ => q2 (by unfold placeL; rw [if_neg fun z => c1 z.1]) _ g0⟩⟩
      refine ifT (decide_eq_true (by omega)) ⟨_, _, rfl, rfl, _, rfl, ?_⟩
      by_cases c2 : (figL l).length ≤ 9
      case neg => exact ifF (decide_eq_false (by omega)) ⟨false, rfl, (fun z => nomatch z), fun _ => q2 (by unfold placeL; rw [if_neg fun z => c2 z.2.1]) _ g0⟩
      refine ifT (decide_eq_true (by omega)) ?_
      refine ⟨_, rfl, _, rfl, fun D nD => lc_it walk_str (fun j G => Gr mu0 F H F G ∧ H D = none ∧ G D = some (.lst ((((figL l).take j).map isF).map V.bl))) ⟨g0.own nD, nD, upd_same⟩ (fun _ _ _ _ => trivial) ?_ ?_⟩
      · rintro j x G G' hj ⟨g, nD, hD⟩ ⟨rfl, c, hc, rfl⟩
        have hc := S_ix hc
        refine ⟨rfl, yes ⟨_, rfl, _, _, rfl, rfl, _, hD, by rw [List.length_map, List.length_map, List.length_take]; exact lt_size (by omega), ?_⟩⟩
        rw [isF_mem]
        refine ⟨g.set (sF.free nD) (.inl nD), nD, ?_⟩
        rw [upd_same, List.take_add_one, hc, List.map_append, List.map_append]
        rfl
      · rintro G ⟨g, nD, hD⟩
        have ej : (figL l).take (SX.S (figL l)).length = figL l := by rw [lf, List.take_length]
        have hD : G D = some (.lst (((figL l).map isF).map V.bl)) := by rw [← ej]; exact hD
        refine ⟨D, _, rfl, SqL.of hD, ?_⟩
        rw [show ((figL l).map isF).all id = (figL l).all isF by rw [List.all_map]; rfl]
        refine ⟨_, rfl, fun c3 => ?_, fun c3 => q2 (by unfold placeL; rw [if_neg fun z => by rw [z.2.2.1] at c3; cases c3]) _ g⟩
        obtain ⟨d, r, ef⟩ : ∃ d r, figL l = d :: r := by
          cases e : figL l with
          | nil => rw [e] at c1; exact absurd c1 (by decide)
          | cons d r => exact ⟨d, r, rfl⟩
        refine ⟨_, rfl, _, _, d, rfl, rfl, le_size (n := (SX.S (figL l)).length) (by omega), by rw [ef]; exact atI_nat (j := 0) rfl, rfl, _, rfl, ?_⟩
        have fin : ∀ i, placeL l = some i → PySem.intText? (SX.S l) = some i ∧ (SX.S l).length ≤ 640 := fun i h => int_place h
        have e0 : (decide (V.str ⟨#[d]⟩ = V.str "0")) = decide (d = 48) := by
          rw [nought_S]
          exact decide_eq_decide.mpr ((strS_iff (a := [d]) (b := [48])).trans ⟨fun z => (List.cons.inj z).1, fun z => by rw [z]⟩)
        rw [e0]
        by_cases c4 : d = 48
        · refine ifF (by rw [decide_eq_true c4]; rfl) ?_
          refine ⟨_, rfl, rfl, ?_⟩
          by_cases c5 : l = [48]
          · refine ⟨true, congrArg (fun b => [V.bl b]) (decide_eq_true (by rw [c5]; exact congrArg V.str nought_S.symm)), fun _ => ?_, fun z => nomatch z⟩
            obtain ⟨i, hi⟩ : ∃ i, placeL l = some i := ⟨_, by unfold placeL; exact if_pos ⟨c1, c2, c3, .inr c5⟩⟩
            exact ⟨_, rfl, _, _, rfl, (fin i hi).1, (fin i hi).2, q1 i hi _ g⟩
          · refine ⟨false, congrArg (fun b => [V.bl b]) (decide_eq_false fun z => c5 (strS_iff.mp (z.trans (congrArg V.str nought_S)))), (fun z => nomatch z), fun _ => q2 ?_ _ g⟩
            unfold placeL
            rw [if_neg fun z => ?_]
            rcases z.2.2.2 with z | z
            · rw [ef] at z; exact z c4
            · exact c5 z
        · refine ifT (by rw [decide_eq_false c4]; rfl) ?_
          refine ⟨true, rfl, fun _ => ?_, fun z => nomatch z⟩
          obtain ⟨i, hi⟩ : ∃ i, placeL l = some i := ⟨_, by unfold placeL; exact if_pos ⟨c1, c2, c3, .inl (by rw [ef]; exact c4)⟩⟩
          exact ⟨_, rfl, _, _, rfl, (fin i hi).1, (fin i hi).2, q1 i hi _ g⟩
/-! ### small things -/
theorem ln {H : Hp} {p q : Addr} {o u : HO} (n : H q = none) (h : H p = some o) : upd H q u p = some o := (upd_ne (ne_of_none h n)).trans h
theorem kt_int_int {K : PySem.W.Frag} : PySem.W.kitOne K (.type "int") (.type "int") = some true := kit_ty (by decide +kernel)
theorem kt_int_bool {K : PySem.W.Frag} : PySem.W.kitOne K (.type "int") (.type "bool") = some false := kit_ty (by decide +kernel)
theorem kt_tup {K : PySem.W.Frag} : PySem.W.kitOne K (.type "tuple") (.type "tuple") = some true := kit_ty (by decide +kernel)
theorem kt_list {K : PySem.W.Frag} : PySem.W.kitOne K (.type "list") (.type "list") = some true := kit_ty (by decide +kernel)
theorem gr_purse {H H1 : Hp} (s : Same H H1) : Gr mu0 H H H H1 := ⟨fun _ _ h => h, s, fun _ _ h => .inl h, fun c o h _ => s c o h, fun c h => s.free h⟩
theorem at_end {xs : List V} {k : Nat} {v : V} (l : xs.length = k + 1) (h : xs[k]? = some v) : atI xs (-1) = some v := by
  have e : ixN xs.length (-1) = some k := by
    unfold ixN
    rw [if_neg (by decide), if_pos (by omega)]
    congr 1
    omega
  unfold atI
  rw [e]
  exact h
theorem cut_all {xs : List V} {j : Nat} (h : xs.length ≤ j) : cutV xs none (some (j : Int)) = xs := by
  unfold cutV
  have e1 : HT.sIx xs.length 0 none = 0 := rfl
  have e2 : HT.sIx xs.length xs.length (some (j : Int)) = xs.length := by
    simp only [HT.sIx]
    rw [if_neg (by omega), Int.toNat_natCast]
    omega
  rw [e1, e2, List.drop_zero, Nat.sub_zero, List.take_length]
theorem map_take_succ {α β : Type} {f : α → β} {xs : List α} {i : Nat} {x : α} (h : xs[i]? = some x) : (xs.take (i + 1)).map f = (xs.take i).map f ++ [f x] := by
  rw [List.take_add_one, h, List.map_append]; rfl
theorem cut_1 {xs : List V} : cutV xs (some 1) none = xs.drop 1 := by
  unfold cutV
  have e2 : HT.sIx xs.length xs.length none = xs.length := rfl
  rw [e2]
  cases xs with
  | nil => simp
  | cons x xs =>
    have e1 : HT.sIx (x :: xs).length 0 (some 1) = 1 := by
      simp only [HT.sIx, List.length_cons]
      rw [if_neg (by decide), show (1 : Int).toNat = 1 from rfl]
      omega
    rw [e1]
    show (xs.take (xs.length + 1 - 1)) = xs
    rw [Nat.add_sub_cancel, List.take_length]
theorem cut32 : ¬ (HT.sIx 3 0 none = 0 ∧ HT.sIx 3 3 (some 2) = 3) := by decide
theorem Gr.frzS {mu : Addr → Prop} {F H F1 H1 : Hp} (g : Gr mu F H F1 H1) (P : Addr → Prop) [DecidablePred P] (h : ∀ c, P c → H c = none ∧ F1 c = none) : Gr mu F H (fun c => if P c then H1 c else F1 c) H1 ∧ Same F1 (fun c => if P c then H1 c else F1 c) := by
  have s : Same F1 (fun c => if P c then H1 c else F1 c) := fun c o e => by
    by_cases p : P c
    · rw [(h c p).2] at e; cases e
    · simp only [p, if_false]; exact e
  refine ⟨⟨fun c o e => s c o (g.ff c o e), fun c o e => ?_, fun c o e => ?_, g.fr, g.th⟩, s⟩
  · by_cases p : P c
    · simp only [p, if_true] at e; exact e
    · simp only [p, if_false] at e; exact g.fh c o e
  · by_cases p : P c
    · exact .inr (h c p).1
    · simp only [p, if_false] at e; exact g.nw c o e
theorem Gr.pf {mu : Addr → Prop} {F H F1 H1 : Hp} {p : Addr} {o : HO} (g : Gr mu F H F1 H1) (f : F p = none) (h : H p = some o) : F1 p = none := by
  cases e : F1 p with
  | none => rfl
  | some z =>
    rcases g.nw p z e with k | k
    · rw [f] at k; cases k
    · rw [h] at k; cases k
theorem four_le : 4 ≤ sizeLine := by decide
/-! ### rows as letters; lengths of joined texts -/
def rowT (r : Int) : Str := if r = 0 then "A" else if r = 1 then "B" else if r = 2 then "C" else "D"
theorem rowT_at {r : Int} (h0 : 0 ≤ r) (h1 : r < 4) : ∃ c, atI ("ABCD" : Str).cps.toList r = some c ∧ (⟨#[c]⟩ : Str) = rowT r := by
  have h : r = 0 ∨ r = 1 ∨ r = 2 ∨ r = 3 := by omega
  rcases h with rfl | rfl | rfl | rfl
  · exact ⟨65, by decide +kernel, by decide +kernel⟩
  · exact ⟨66, by decide +kernel, by decide +kernel⟩
  · exact ⟨67, by decide +kernel, by decide +kernel⟩
  · exact ⟨68, by decide +kernel, by decide +kernel⟩
theorem rowT_len (r : Int) : (rowT r).length = 1 := by
  unfold rowT
  split
  · decide +kernel
  split
  · decide +kernel
  split
  · decide +kernel
  · decide +kernel
theorem str_len_app (a b : Str) : (a ++ b).length = a.length + b.length := by
  show (a.cps ++ b.cps).size = _
  rw [Array.size_append]; rfl
theorem sum_le_all {l : List Nat} {k : Nat} (h : ∀ x ∈ l, x ≤ k) : l.sum ≤ l.length * k := by
  induction l with
  | nil => exact Nat.zero_le _
  | cons x l ih =>
    have h1 := ih fun y m => h y (List.mem_cons_of_mem _ m)
    have h2 := h x List.mem_cons_self
    rw [List.sum_cons, List.length_cons, Nat.add_mul]
    omega
theorem join_le (sep : Str) (ws : List Str) {k : Nat} (h : ∀ x ∈ ws, x.length ≤ k) : (ws.map (·.length)).sum + ws.length * sep.length ≤ ws.length * (k + sep.length) := by
  have z := sum_le_all (l := ws.map (·.length)) (k := k) fun x m => by
    obtain ⟨y, hy, rfl⟩ := List.mem_map.mp m
    exact h y hy
  rw [List.length_map] at z
  rw [Nat.mul_add]
  omega
theorem join_len_le (sep : Str) (ws : List Str) {k : Nat} (h : ∀ x ∈ ws, x.length ≤ k) : (Txt.join sep ws).length ≤ ws.length * (k + sep.length) := by
  refine Nat.le_trans ?_ (join_le sep ws h)
  rw [TL.join_eq]
  exact StrLaws.join_length_le sep ws
theorem blank_len : (" " : Str).length = 1 := by decide +kernel
theorem mt1 {α β : Type} {f : α → β} {l : List α} {i : Nat} {x : α} (h : l[i]? = some x) : (l.take (i + 1)).map f = (l.take i).map f ++ [f x] := by
  rw [List.take_add_one, h, List.map_append]; rfl
theorem mt2 {α : Type} {f : α → Bool} {l : List α} {i : Nat} {x : α} (h : l[i]? = some x) : ((l.take i).map f).map V.bl ++ [V.bl (f x)] = ((l.take (i + 1)).map f).map V.bl := by
  rw [mt1 h, List.map_append]; rfl
theorem all_id {α : Type} (f : α → Bool) (l : List α) : (l.map f).all id = l.all f := by rw [List.all_map]; rfl
theorem mt3 {α : Type} {f : α → Str} {l : List α} {i : Nat} {x : α} (h : l[i]? = some x) : ((l.take i).map f).map V.str ++ [V.str (f x)] = ((l.take (i + 1)).map f).map V.str := by
  rw [mt1 h, List.map_append]; rfl
/-! ### a tuple's text, by its signs -/
def figT3 (b : List Nat) : Bool := decide (b = [49] ∨ b = [50] ∨ b = [51])
def signL (l : List Nat) : Option PI :=
  match TL.par [61] [] l with
  | none => none
  | some (a, b) => if figT3 b = true then (placeL a).map fun i => ⟨i, (b.headD 0 : Int) - 48⟩ else none
theorem eq_tl : TL.tl ("=" : Str) = [61] := by decide +kernel
theorem one_S : ("1" : Str) = SX.S [49] := by decide +kernel
theorem two_S : ("2" : Str) = SX.S [50] := by decide +kernel
theorem three_S : ("3" : Str) = SX.S [51] := by decide +kernel
theorem inV_strs (l : List Nat) : ∀ ps : List (List Nat), inV (V.str (SX.S l)) (ps.map fun p => V.str (SX.S p)) = decide (l ∈ ps)
  | [] => rfl
  | p :: ps => by
    show (eqV (V.str (SX.S p)) (V.str (SX.S l)) || inV (V.str (SX.S l)) (ps.map fun p => V.str (SX.S p))) = _
    rw [inV_strs l ps]
    show ((SX.S p == SX.S l) || decide (l ∈ ps)) = _
    rw [SX.S_beq_eq, Bool.eq_iff_iff, Bool.or_eq_true, decide_eq_true_iff, decide_eq_true_iff, decide_eq_true_iff, List.mem_cons]
    exact ⟨fun h => h.imp_left Eq.symm, fun h => h.imp_left Eq.symm⟩
theorem inV_three (b : List Nat) : inV (V.str (SX.S b)) [.str "1", .str "2", .str "3"] = figT3 b := by
  rw [one_S, two_S, three_S]
  refine (inV_strs b [[49], [50], [51]]).trans ?_
  unfold figT3
  exact decide_eq_decide.mpr (by simp only [List.mem_cons, List.not_mem_nil, or_false])
theorem par_len {S : List Nat} : ∀ {l acc a b : List Nat}, TL.par S acc l = some (a, b) → a.length ≤ acc.length + l.length ∧ b.length ≤ l.length
  | [], acc, a, b, h => by cases h
  | c :: r, acc, a, b, h => by
    cases p : TL.pre S (c :: r) with
    | true =>
      rw [TL.par_hit p] at h
      cases h
      refine ⟨by omega, ?_⟩
      rw [List.length_drop]; omega
    | false =>
      rw [TL.par_miss p] at h
      have := par_len h
      rw [List.length_append, List.length_singleton] at this
      rw [List.length_cons]
      omega
theorem int_fig3 {b : List Nat} (h : figT3 b = true) : PySem.intText? (SX.S b) = some ((b.headD 0 : Int) - 48) ∧ (SX.S b).length ≤ 640 := by
  rcases of_decide_eq_true h with rfl | rfl | rfl <;> exact ⟨by decide +kernel, by decide +kernel⟩
def sp_readG (C : Addr) : Sp := fun vs H Q E => ∃ (F : Hp) (l : List Nat), vs = [.str (SX.S l)] ∧ Same F H ∧ l.length ≤ 900000 ∧ (∀ c, signL l = some c → ∀ (F' H' : Hp) (v : V), Gr mu0 F H F' H' → Is F' v c → Q v H') ∧ (signL l = none → ∀ H', Gr mu0 F H F H' → E (.ref C) none H')
theorem okx_read_sign (t : Tx K mg) : FnOk P w K mg base (L2.CX P w) 3 t.a_read_sign t.fd_read_sign ["text"] (sp_readG t.C_NoText) := by
  refine t.F_read_sign.okX sc_read_sign (fun vs H Q E h => ?_) (fun cdv A outer s H vs Q E hr h => ?_)
  · obtain ⟨F, l, rfl, _⟩ := h
    rfl
  · obtain ⟨F, l, rfl, sF, hl, q1, q2⟩ := h
    refine ⟨_, (pss_cons (ps_asg (pe_partition (pv 0) pe_str) (pg_tup rfl (pgs_cons (pg_name (i := 1) sc_read_sign.nd rfl (by first | exact Or.inl rfl | exact Or.inr rfl)) (pgs_cons (pg_name (i := 2) sc_read_sign.nd rfl (by first | exact Or.inl rfl | exact Or.inr rfl)) (pgs_cons (pg_name (i := 3) sc_read_sign.nd rfl (by first | exact Or.inl rfl | exact Or.inr rfl)) pgs_nil)))))
      (pss_cons (ps_expr (pe_callS (okx_must t) (hr.mono (by decide)) (by rfl) t.m_must t.F_must.kp t.b_must (fun σ => passAt (takes_of rfl rfl rfl rfl) σ) (pa_cons (pe_cmpR op_in_seq (pv 3) (pe_lst (pa_cons pe_str (pa_cons pe_str (pa_cons pe_str pa_nil)))) (by rfl)) pa_nil)))
      (pss_one (ps_ret (pe_tup (pa_cons (pe_callS (okx_read_place t) (hr.mono (by decide)) (by rfl) t.m_read_place t.F_read_place.kp t.b_read_place (fun σ => passAt (takes_of rfl rfl rfl rfl) σ) (pa_cons (pv 1) pa_nil)) (pa_cons (pe_callTy (T := "int") call_int_str (by rfl) t.n_int (by decide +kernel) (pa_cons (pv 3) pa_nil)) pa_nil))))))), ?_⟩
    have g0 : Gr mu0 F H F H := Gr.refl sF
    have lS : (SX.S l).length = l.length := SX.S_len l
    refine ⟨_, rfl, ⟨_, rfl⟩, _, _, rfl, rfl, by decide +kernel, le_size (n := (SX.S l).length) (by omega), fun p np => ?_⟩
    obtain ⟨a, e, b, ep, eg, la⟩ : ∃ (a : List Nat) (e : Str) (b : List Nat), Txt.partition (SX.S l) "=" = (SX.S a, e, SX.S b) ∧ signL l = (if figT3 b = true then (placeL a).map fun i => (⟨i, (b.headD 0 : Int) - 48⟩ : PI) else none) ∧ a.length ≤ l.length := by
      rw [TL.partition_par _ _ (by rw [eq_tl]; simp), eq_tl, tl_S]
      unfold signL
      cases h : TL.par [61] [] l with
      | none => exact ⟨l, Str.empty, [], rfl, rfl, Nat.le_refl _⟩
      | some r =>
        obtain ⟨a, b⟩ := r
        have := par_len h
        exact ⟨a, _, b, rfl, rfl, by have := this.1; rw [List.length_nil] at this; omega⟩
    rw [ep]
    have g1 := g0.own (o := .tup [.str (SX.S a), .str e, .str (SX.S b)]) np
    refine ⟨p, _, rfl, SqT.of upd_same, rfl, _, _, rfl, _, _, rfl, _, _, rfl, rfl, ?_⟩
    generalize upd H p (.tup [.str (SX.S a), .str e, .str (SX.S b)]) = H1 at g1 ⊢
    refine ⟨_, rfl, three_le, fun D nD => ⟨D, _, rfl, .inl (SqL.of upd_same), rfl, by decide +kernel, ?_⟩⟩
    have g2 := g1.own (o := .lst [.str "1", .str "2", .str "3"]) nD
    generalize upd H1 D (.lst [.str "1", .str "2", .str "3"]) = H2 at g2 ⊢
    refine ⟨_, congrArg (fun b => [V.bl b]) (inV_three b), fun c => ?_, fun c => q2 (by rw [eg, if_neg (by rw [c]; decide)]) _ g2⟩
    rw [if_pos c] at eg
    refine ⟨_, rfl, F, a, rfl, g2.fh, by omega, fun i hi H3 g3 => ?_, fun hn H3 g3 => q2 (by rw [eg, hn]; rfl) _ (g2.trans g3)⟩
    have g4 := g2.trans g3
    refine ⟨_, rfl, _, _, rfl, (int_fig3 c).1, (int_fig3 c).2, two_le, fun u nu => ?_⟩
    exact q1 _ (by rw [eg, hi]; rfl) _ _ _ (g4.new nu) ⟨u, _, _, rfl, upd_same, rfl, rfl⟩
theorem join_part {y : Str} : ∀ {ps : List Str} {p : Str}, p ∈ ps → p.length ≤ (Str.join y ps).length
  | [a], p, m => by rw [List.mem_singleton.mp m]; exact Nat.le_refl _
  | a :: b :: r, p, m => by
    have e : (Str.join y (a :: b :: r)).length = a.length + y.length + (Str.join y (b :: r)).length := by
      show (a ++ y ++ Str.join y (b :: r)).length = _
      rw [str_len_app, str_len_app]
    rcases List.mem_cons.mp m with rfl | m
    · omega
    · have := join_part (y := y) m
      omega
theorem split_part {x y p : Str} (m : p ∈ Txt.split x y) : p.length ≤ x.length := by
  have z := join_part (y := y) m
  rw [PySem.StrLaws.join_split] at z
  exact z
/-- all of them, or none -/
def allS {α : Type} : List (Option α) → Option (List α)
  | [] => some []
  | none :: _ => none
  | some a :: l => (allS l).map (a :: ·)
theorem allS_some {α : Type} : ∀ {l : List (Option α)} {es : List α}, l = es.map some → allS l = some es
  | _, [], rfl => rfl
  | _, e :: es, rfl => by
    show (allS (es.map some)).map (e :: ·) = _
    rw [allS_some rfl]; rfl
theorem allS_none {α : Type} : ∀ {l : List (Option α)}, none ∈ l → allS l = none
  | none :: l, _ => rfl
  | some a :: l, h => by
    show (allS l).map (a :: ·) = none
    rw [allS_none (by simpa using h)]; rfl
theorem allS_cases {α : Type} : ∀ (l : List (Option α)), (∃ es : List α, l = es.map some) ∨ none ∈ l
  | [] => .inl ⟨[], rfl⟩
  | none :: l => .inr List.mem_cons_self
  | some a :: l => by
    rcases allS_cases l with ⟨es, e⟩ | h
    · exact .inl ⟨a :: es, by rw [e]; rfl⟩
    · exact .inr (List.mem_cons_of_mem _ h)
theorem take_some {α β : Type} {f : α → Option β} {l : List α} {i : Nat} {x : α} {e : β} {es : List β} (hx : l[i]? = some x) (he : f x = some e) (h : (l.take i).map f = es.map some) : (l.take (i + 1)).map f = (es ++ [e]).map some := by
  rw [List.take_add_one, hx, List.map_append, List.map_append, h]
  show es.map some ++ [f x] = es.map some ++ [some e]
  rw [he]
theorem gr_same {F H H1 : Hp} (f : Same F H) (s : Same H H1) : Gr mu0 F H F H1 := ⟨fun _ _ h => h, fun c o h => s _ _ (f _ _ h), fun _ _ h => .inl h, fun c o h _ => s _ _ h, fun c h => s.free h⟩
theorem gr_up {F H F1 H1 : Hp} (g : Gr mu0 F H F1 H1) : Same H H1 := fun c o h => g.fr c o h (fun z => z)
/-! ### setups read -/
abbrev Setup := T3 Int Int (List PI)
def rowL : List Nat → Option Int
  | [c] => if 65 ≤ c ∧ c < 69 then some ((c : Int) - 65) else none
  | _ => none
def risB : List PI → Bool
  | c :: d :: r => decide (c.a < d.a) && risB (d :: r)
  | _ => true
theorem risB_iff : ∀ cs : List PI, risB cs = true ↔ ∀ (k : Nat) (c d : PI), cs[k]? = some c → cs[k + 1]? = some d → c.a < d.a
  | [] => ⟨fun _ k c d h => (by simp at h), fun _ => rfl⟩
  | [x] => ⟨fun _ k c d _ h => (by simp at h), fun _ => rfl⟩
  | x :: y :: r => by
    show (decide (x.a < y.a) && risB (y :: r)) = true ↔ _
    rw [Bool.and_eq_true, decide_eq_true_iff, risB_iff (y :: r)]
    constructor
    · rintro ⟨h1, h2⟩ k c d e1 e2
      cases k with
      | zero =>
        rw [← Option.some.inj e1, ← Option.some.inj e2]; exact h1
      | succ k => exact h2 k c d e1 e2
    · exact fun h => ⟨h 0 x y rfl rfl, fun k c d e1 e2 => h (k + 1) c d e1 e2⟩
def setupW : List Str → Option Setup
  | w0 :: w1 :: r => if r.length ≤ 40 then (rowL (TL.tl w0)).bind fun a => (allS (r.map fun w => signL (TL.tl w))).bind fun cs => (placeL (TL.tl w1)).bind fun i => if risB cs = true then some ⟨a, i, cs⟩ else none else none
  | _ => none
def setupL (x : Str) : Option Setup := setupW (Txt.split x " ")
theorem setupW_cons (w0 w1 : Str) (r : List Str) : setupW (w0 :: w1 :: r) = if r.length ≤ 40 then (rowL (TL.tl w0)).bind fun a => (allS (r.map fun w => signL (TL.tl w))).bind fun cs => (placeL (TL.tl w1)).bind fun i => if risB cs = true then some ⟨a, i, cs⟩ else none else none := rfl
theorem setupW_some {w0 w1 : Str} {r : List Str} {a i : Int} {cs : List PI} (hr : r.length ≤ 40) (h0 : rowL (TL.tl w0) = some a) (h1 : placeL (TL.tl w1) = some i) (h2 : r.map (fun w => signL (TL.tl w)) = cs.map some) (h3 : risB cs = true) : setupW (w0 :: w1 :: r) = some ⟨a, i, cs⟩ := by
  rw [setupW_cons]
  rw [if_pos hr, h0, allS_some h2, h1]
  show (if risB cs = true then some _ else none) = _
  rw [if_pos h3]
theorem setupW_few {ws : List Str} (h : ¬ (2 ≤ ws.length ∧ ws.length ≤ 42)) : setupW ws = none := by
  match ws, h with
  | [], _ => rfl
  | [_], _ => rfl
  | w0 :: w1 :: r, h =>
    rw [setupW_cons]
    rw [if_neg]
    rw [List.length_cons, List.length_cons] at h
    omega
theorem setupW_row {w0 w1 : Str} {r : List Str} (h : rowL (TL.tl w0) = none) : setupW (w0 :: w1 :: r) = none := by
  rw [setupW_cons]
  rw [h]
  split <;> rfl
theorem setupW_sign {w0 w1 : Str} {r : List Str} (h : none ∈ r.map (fun w => signL (TL.tl w))) : setupW (w0 :: w1 :: r) = none := by
  rw [setupW_cons]
  rw [allS_none h]
  split
  · cases rowL (TL.tl w0) <;> rfl
  · rfl
theorem setupW_place {w0 w1 : Str} {r : List Str} (h : placeL (TL.tl w1) = none) : setupW (w0 :: w1 :: r) = none := by
  rw [setupW_cons]
  rw [h]
  split
  · cases rowL (TL.tl w0) with
    | none => rfl
    | some a =>
      cases allS (r.map fun w => signL (TL.tl w)) <;> rfl
  · rfl
theorem setupW_ris {w0 w1 : Str} {r : List Str} {cs : List PI} (h2 : r.map (fun w => signL (TL.tl w)) = cs.map some) (h : risB cs = false) : setupW (w0 :: w1 :: r) = none := by
  rw [setupW_cons]
  rw [allS_some h2]
  split
  · cases rowL (TL.tl w0) with
    | none => rfl
    | some a =>
      cases placeL (TL.tl w1) with
      | none => rfl
      | some i =>
        show (if risB cs = true then some _ else none) = none
        rw [if_neg (by rw [h]; decide)]
  · rfl
theorem a_S : ("A" : Str) = SX.S [65] ∧ ("B" : Str) = SX.S [66] ∧ ("C" : Str) = SX.S [67] ∧ ("D" : Str) = SX.S [68] := ⟨by decide +kernel, by decide +kernel, by decide +kernel, by decide +kernel⟩
theorem inV_four (b : Str) : inV (V.str b) [.str "A", .str "B", .str "C", .str "D"] = (rowL (TL.tl b)).isSome := by
  rw [a_S.1, a_S.2.1, a_S.2.2.1, a_S.2.2.2]
  obtain ⟨l, rfl⟩ := mk_S b
  refine (inV_strs l [[65], [66], [67], [68]]).trans ?_
  rw [tl_S]
  match l with
  | [] => rfl
  | [c] =>
    show _ = (if 65 ≤ c ∧ c < 69 then some ((c : Int) - 65) else none).isSome
    by_cases h : 65 ≤ c ∧ c < 69
    · rw [if_pos h]
      have : c = 65 ∨ c = 66 ∨ c = 67 ∨ c = 68 := by omega
      rcases this with rfl | rfl | rfl | rfl <;> rfl
    · rw [if_neg h]
      refine decide_eq_false fun m => h ?_
      simp only [List.mem_cons, List.not_mem_nil, or_false, List.cons.injEq, and_true] at m
      omega
  | c :: d :: r =>
    refine decide_eq_false fun m => ?_
    simp at m
theorem rowL_occ {b : Str} {a : Int} (h : rowL (TL.tl b) = some a) : ∃ k : Nat, a = (k : Int) ∧ Builtin.Str.occurrences ("ABCD" : Str) b 0 ("ABCD" : Str).length 1 = k :: [] := by
  obtain ⟨l, rfl⟩ := mk_S b
  rw [tl_S] at h
  match l, h with
  | [c], h =>
    have h : (if 65 ≤ c ∧ c < 69 then some ((c : Int) - 65) else none) = some a := h
    by_cases z : 65 ≤ c ∧ c < 69
    · rw [if_pos z] at h
      refine ⟨c - 65, by have := Option.some.inj h; omega, occ_abcd z⟩
    · rw [if_neg z] at h; cases h
theorem cut_two {x y : V} {vs : List V} : cutV (x :: y :: vs) (some 2) none = vs := by
  have e : HT.sIx (x :: y :: vs).length 0 (some 2) = 2 := by
    show min 2 (vs.length + 1 + 1) = 2
    omega
  unfold cutV
  rw [e]
  show (vs).take (vs.length + 1 + 1 - 2) = vs
  rw [show vs.length + 1 + 1 - 2 = vs.length by omega, List.take_length]
theorem str_S (w : Str) : [V.str w] = [V.str (SX.S (TL.tl w))] := congrArg (fun z => [V.str z]) (TL.mk_tl w).symm
def sp_readS (C : Addr) : Sp := fun vs H Q E => ∃ (F : Hp) (x : Str), vs = [.str x] ∧ Same F H ∧ x.length ≤ 800000 ∧
  (∀ s, setupL x = some s → ∀ (F' H' : Hp) (v : V), Gr mu0 F H F' H' → Is F' v s → Q v H') ∧ (setupL x = none → ∀ H', Gr mu0 F H F H' → E (.ref C) none H')
theorem okx_read_setup (t : Tx K mg) : FnOk P w K mg base (L2.CX P w) 4 t.a_read_setup t.fd_read_setup ["text"] (sp_readS t.C_NoText) := by
  refine t.F_read_setup.okX sc_read_setup (fun vs H Q E h => ?_) (fun cdv A outer s H vs Q E hr h => ?_)
  · obtain ⟨F, x, rfl, _⟩ := h
    rfl
  · obtain ⟨F, x, rfl, sF, hx, q1, q2⟩ := h
    refine ⟨_, (pss_cons (ps_set (i := 1) sc_read_setup.nd rfl (by first | exact Or.inl rfl | exact Or.inr rfl) (pe_split (pv 0) pe_str))
      (pss_cons (ps_expr (pe_callS (okx_must t) (hr.mono (by decide)) (by rfl) t.m_must t.F_must.kp t.b_must (fun σ => passAt (takes_of rfl rfl rfl rfl) σ) (pa_cons (pe_and (pe_chain op_le op_le pe_int (pe_callB (id := "len") call_lenQ (by rfl) t.n_len (by decide +kernel) (pa_cons (pv 1) pa_nil)) pe_int) (pe_one (pe_cmpR op_in_seq (pe_ix ix_list (pv 1) pe_int (fun _ _ => rfl)) (pe_lst (pa_cons pe_str (pa_cons pe_str (pa_cons pe_str (pa_cons pe_str pa_nil))))) (by rfl)))) pa_nil)))
      (pss_cons (ps_setLcX (i := 2) (own := [("word", 3)]) (g := gName 3) (tt := tYes) (takes_of rfl rfl rfl rfl) rfl rfl rfl sc_read_setup.nd rfl rfl (sw_true rfl rfl rfl (by decide +kernel)) (pi_list (pe_slice sl_list (pv 1) (po_some pe_int) po_none)) (blkOk_by (N := N_read_setup) (sc := defScope s_read_setup) (by decide +kernel)) (fun _ _ _ _ _ => (pg_name (i := 3) sc_read_setup.nd rfl (by first | exact Or.inl rfl | exact Or.inr rfl))) (fun _ _ _ _ _ => pts_nil) (fun _ _ _ _ _ _ hx => (pe_callS (okx_read_sign t) (hr.mono (by decide)) (by rfl) t.m_read_sign t.F_read_sign.kp t.b_read_sign hx (pa_cons (pv 3) pa_nil))))
      (pss_cons (ps_for (passes_of rfl) rfl (pi_range2 (by rfl) t.n_range (pa_cons pe_int (pa_cons (pe_callB (id := "len") call_lenQ (by rfl) t.n_len (by decide +kernel) (pa_cons (pv 2) pa_nil)) pa_nil))) (pg_name (i := 4) sc_read_setup.nd rfl (by first | exact Or.inl rfl | exact Or.inr rfl)) (pss_one (ps_expr (pe_callS (okx_must t) (hr.mono (by decide)) (by rfl) t.m_must t.F_must.kp t.b_must (fun σ => passAt (takes_of rfl rfl rfl rfl) σ) (pa_cons (pe_cmpR op_lt (pe_ix ix_tup (pe_ix ix_list (pv 2) (pe_op op_sub (pv 4) pe_int) (fun _ _ => rfl)) pe_int (fun _ _ => rfl)) (pe_ix ix_tup (pe_ix ix_list (pv 2) (pv 4) (fun _ _ => rfl)) pe_int (fun _ _ => rfl)) (nomark _)) pa_nil)))))
      (pss_one (ps_ret (pe_tup (pa_cons (pe_m1 PySem.F.slot_str_index PySem.F.type_str_index mt_sindex (pe_glob (v := .str "ABCD") (by rfl) t.m_ROWS ⟨_, rfl⟩) (pe_ix ix_list (pv 1) pe_int (fun _ _ => rfl))) (pa_cons (pe_callS (okx_read_place t) (hr.mono (by decide)) (by rfl) t.m_read_place t.F_read_place.kp t.b_read_place (fun σ => passAt (takes_of rfl rfl rfl rfl) σ) (pa_cons (pe_ix ix_list (pv 1) pe_int (fun _ _ => rfl)) pa_nil)) (pa_cons (pv 2) pa_nil)))))))))), ?_⟩
    have g0 : Gr mu0 F H F H := Gr.refl sF
    have ls := PyProof.Rows.split_le x " "
    refine ⟨_, rfl, ⟨_, rfl⟩, _, _, rfl, rfl, by decide +kernel, le_size (n := x.length + 2) (by omega), fun W nW => ?_⟩
    have lp : ∀ p ∈ Txt.split x " ", p.length ≤ x.length := fun p m => split_part m
    unfold setupL at q1 q2
    generalize Txt.split x " " = ws at q1 q2 ls lp ⊢
    have g1 := g0.own (o := .lst (ws.map V.str)) nW
    have hW : (upd H W (.lst (ws.map V.str))) W = some (.lst (ws.map V.str)) := upd_same
    generalize upd H W (.lst (ws.map V.str)) = H1 at g1 hW ⊢
    have lw : (ws.map V.str).length = ws.length := List.length_map _
    refine ⟨_, rfl, W, _, rfl, .inl (SqL.of hW), _, _, rfl, rfl, _, rfl, ?_⟩
    by_cases c1 : 2 ≤ ws.length
    case neg => exact ifF (decide_eq_false (by rw [lw]; omega)) ⟨_, rfl, ifF rfl ⟨false, rfl, (fun z => nomatch z), fun _ => q2 (setupW_few fun z => c1 z.1) _ g1⟩⟩
    refine ifT (decide_eq_true (by rw [lw]; omega)) ⟨_, _, rfl, rfl, _, rfl, ?_⟩
    by_cases c2 : ws.length ≤ 42
    case neg => exact ifF (decide_eq_false (by rw [lw]; omega)) ⟨false, rfl, (fun z => nomatch z), fun _ => q2 (setupW_few fun z => c2 z.2) _ g1⟩
    refine ifT (decide_eq_true (by rw [lw]; omega)) ?_
    obtain ⟨w0, w1, r, rfl⟩ : ∃ w0 w1 r, ws = w0 :: w1 :: r := by
      match ws, c1 with
      | w0 :: w1 :: r, _ => exact ⟨w0, w1, r, rfl⟩
    have lr : r.length ≤ 40 := by rw [List.length_cons, List.length_cons] at c2; omega
    refine ⟨_, rfl, W, _, _, _, rfl, rfl, SqL.of hW, atI_nat (j := 0) rfl, four_le, fun D nD => ⟨D, _, rfl, .inl (SqL.of upd_same), rfl, by decide +kernel, ?_⟩⟩
    have g2 := g1.own (o := .lst [.str "A", .str "B", .str "C", .str "D"]) nD
    have hW2 := ln (u := .lst [.str "A", .str "B", .str "C", .str "D"]) nD hW
    generalize upd H1 D (.lst [.str "A", .str "B", .str "C", .str "D"]) = H2 at g2 hW2 ⊢
    refine ⟨_, congrArg (fun b => [V.bl b]) (inV_four w0), fun c3 => ?_, fun c3 => q2 (setupW_row (by
      cases e : rowL (TL.tl w0) with
      | none => rfl
      | some a => rw [e] at c3; cases c3)) _ g2⟩
    obtain ⟨a, ha⟩ : ∃ a, rowL (TL.tl w0) = some a := Option.isSome_iff_exists.mp c3
    refine ⟨_, rfl, _, rfl, W, _, rfl, SqL.of hW2, fun S nS => ?_⟩
    rw [show cutV ((w0 :: w1 :: r).map V.str) (some 2) none = r.map V.str from cut_two]
    have g3 := g2.own (o := .lst (r.map V.str)) nS
    have hW3 := ln (u := .lst (r.map V.str)) nS hW2
    have hS : (upd H2 S (.lst (r.map V.str))) S = some (.lst (r.map V.str)) := upd_same
    generalize upd H2 S (.lst (r.map V.str)) = H3 at g3 hW3 hS ⊢
    have lS : (r.map V.str).length = r.length := List.length_map _
    refine ⟨S, rfl, ⟨_, SqL.of hS⟩, fun D nD => lc_list (K := K) (a := S) (xs := r.map V.str) (fun i G => ∃ (F2 : Hp) (xs : List V) (cs : List PI), Gr mu0 F H F2 G ∧ G S = some (.lst (r.map V.str)) ∧ G W = some (.lst ((w0 :: w1 :: r).map V.str)) ∧ S ≠ D ∧ W ≠ D ∧ Ow H F2 G D (.lst xs) ∧ IsAll F2 xs cs ∧ (r.take i).map (fun w => signL (TL.tl w)) = cs.map some) ⟨F, [], [], g3.own nD, ln nD hS, ln nD hW3, ne_of_none hS nD, ne_of_none hW3 nD, Ow.mk1 g3 nD, All2.nil, rfl⟩ (fun i G _ p => SqL.of p.choose_spec.choose_spec.choose_spec.2.1) ?_ ?_⟩
    · rintro i y G hi ⟨F2, xs, cs, g, hSG, hWG, SD, WD, w, al, ec⟩
      obtain ⟨z, hz, rfl⟩ : ∃ z, r[i]? = some z ∧ V.str z = y := by
        rw [List.getElem?_map] at hi
        exact Option.map_eq_some_iff.mp hi
      have mz := List.mem_of_getElem? hz
      have lz := lp z (List.mem_cons_of_mem _ (List.mem_cons_of_mem _ mz))
      have il := (List.getElem?_eq_some_iff.mp hz).1
      have lcs : xs.length ≤ i := by
        have := congrArg List.length ec
        rw [List.length_map, List.length_map, List.length_take] at this
        rw [al.1]; omega
      refine ⟨rfl, yes ⟨_, rfl, F2, TL.tl z, str_S z, g.fh, by rw [← TL.len_tl]; omega, fun c hc F3 H4 v g4 hv => ?_, fun hn H4 g4 => ?_⟩⟩
      · have w4 := w.call g4 (fun z => z)
        refine ⟨_, w4.h, lt_size (by omega), F3, xs ++ [v], cs ++ [c], (g.trans g4).set w4.f (.inl w4.n), by rw [upd_ne SD]; exact g4.fr _ _ hSG (fun z => z), by rw [upd_ne WD]; exact g4.fr _ _ hWG (fun z => z), SD, WD, w4.set, (al.up g4.ff).app (All2.one hv), take_some (f := fun w => signL (TL.tl w)) hz hc ec⟩
      · exact q2 (setupW_sign (List.mem_map.mpr ⟨z, mz, hn⟩)) H4 (gr_same sF (gr_up (g.trans g4)))
    · rintro G ⟨F2, xs, cs, g, hSG, hWG, SD, WD, w, al, ec⟩
      rw [lS, List.take_length] at ec
      have lx : xs.length = cs.length := al.1
      have lc : cs.length = r.length := by
        have := congrArg List.length ec
        rw [List.length_map, List.length_map] at this
        exact this.symm
      refine ⟨_, rfl, D, xs, rfl, .inl (SqL.of w.h), 1, _, rfl, ⟨by decide, by decide, by omega, by omega⟩, for_range (lo := 1) (n := ((xs.length : Int) - 1).toNat) (fun i σ H2 => ∃ v : Option V, σ = [some (.str x), some (.ref W), some (.ref D), none, v] ∧ H2 = G ∧ ∀ (k : Nat) (c d : PI), k < i → cs[k]? = some c → cs[k + 1]? = some d → c.a < d.a) ⟨none, rfl, rfl, fun k c d z => absurd z (Nat.not_lt_zero _)⟩ ?_ ?_⟩
      · rintro j σ G hj ⟨v, rfl, rfl, hu⟩
        have j1 : j < xs.length := by omega
        have j2 : j + 1 < xs.length := by omega
        obtain ⟨c, hc, p1, y1, y2, e1, h1, d1, d2⟩ := al.get' (List.getElem?_eq_getElem j1)
        obtain ⟨d, hd, p2, z1, z2, e2, h2, d3, d4⟩ := al.get' (List.getElem?_eq_getElem j2)
        have d1 : y1 = .int c.a := d1
        have d3 : z1 = .int d.a := d3
        subst d1
        subst d3
        have k1 : atI xs (1 + (j : Int) - 1) = some (.ref p1) := at_of (j := j) (by omega) (by rw [← e1]; exact List.getElem?_eq_getElem j1)
        have k2 : atI xs (1 + (j : Int)) = some (.ref p2) := at_of (j := j + 1) (by omega) (by rw [← e2]; exact List.getElem?_eq_getElem j2)
        refine ⟨_, rfl, _, rfl, _, _, rfl, rfl, D, _, _, _, rfl, rfl, SqL.of w.h, k1, p1, _, _, _, rfl, rfl, SqT.of (g.fh _ _ h1), atI_nat (j := 0) rfl, ?_⟩
        refine ⟨_, rfl, _, rfl, D, _, _, _, rfl, rfl, SqL.of w.h, k2, p2, _, _, _, rfl, rfl, SqT.of (g.fh _ _ h2), atI_nat (j := 0) rfl, _, _, rfl, rfl, ?_⟩
        refine ⟨_, rfl, fun z => ⟨_, rfl, rfl, fun k c' d' hk f1 f2 => ?_⟩, fun z => q2 (setupW_ris ec ?_) _ (gr_same sF (gr_up g))⟩
        · by_cases ek : k = j
          · rw [ek] at f1 f2
            rw [hc] at f1
            rw [hd] at f2
            cases f1
            cases f2
            exact of_decide_eq_true z
          · exact hu k c' d' (by omega) f1 f2
        · cases er : risB cs with
          | false => rfl
          | true => exact absurd ((risB_iff cs).mp er j c d hc hd) (of_decide_eq_false z)
      · rintro σ G ⟨v, rfl, rfl, hu⟩
        have hris : risB cs = true := (risB_iff cs).mpr fun k c d e1 e2 => hu k c d (by have := (List.getElem?_eq_some_iff.mp e2).1; omega) e1 e2
        obtain ⟨ka, rfl, hocc⟩ := rowL_occ ha
        refine ⟨⟨_, rfl⟩, _, rfl, W, _, _, _, rfl, rfl, SqL.of hWG, atI_nat (j := 0) rfl, _, _, _, _, rfl, rfl, hocc, ?_⟩
        have l1 := lp w1 (List.mem_cons_of_mem _ List.mem_cons_self)
        refine ⟨_, rfl, W, _, _, _, rfl, rfl, SqL.of hWG, atI_nat (j := 1) rfl, F2, TL.tl w1, str_S w1, g.fh, by rw [← TL.len_tl]; omega, fun i hi H5 g5 => ⟨_, rfl, three_le, fun u nu => ?_⟩, fun hn H5 g5 => q2 (setupW_place hn) _ (gr_same sF (gr_up (g.trans g5)))⟩
        have w5 := w.call g5 (fun z => z)
        have k6 := (g.trans g5).frz w5.h w5.n w5.f
        refine q1 _ (setupW_some lr ha hi ec hris) _ _ _ (k6.new nu) ⟨u, _, _, _, rfl, upd_same, rfl, rfl, D, xs, rfl, ?_, ?_⟩
        · have : D ≠ u := ne_of_none w5.h nu
          rw [upd_ne this, upd_same]
        · refine al.up fun c o h => ?_
          have n1 : c ≠ D := ne_of_none (g5.ff _ _ h) w5.f
          have n2 : c ≠ u := ne_of_none (g5.fh _ _ (g5.ff _ _ h)) nu
          rw [upd_ne n2, upd_ne n1]; exact g5.ff _ _ h
/-! ### the law's reading of a place -/
def oI : Option Int → V
  | none => .non
  | some i => .int i
def sp_L_whole : Sp := fun vs H Q _ => ∃ (F : Hp) (l : List Nat), vs = [.str (SX.S l)] ∧ Same F H ∧ l.length ≤ 900000 ∧ ∀ H', Gr mu0 F H F H' → Q (oI (placeL l)) H'
theorem ok_L_whole (t : Tx K mg) : FnOk P w K mg base CX0 1 t.a_L_whole t.fd_L_whole ["_law_text"] sp_L_whole := by
  refine t.F_L_whole.ok sc_L_whole (fun vs H Q E h => ?_) (fun cdv A outer s H vs Q E hr h => ?_)
  · obtain ⟨F, l, rfl, _⟩ := h
    rfl
  · obtain ⟨F, l, rfl, sF, hl, q⟩ := h
    refine ⟨_, (pss_cons (ps_set (i := 1) sc_L_whole.nd rfl (by first | exact Or.inl rfl | exact Or.inr rfl) (pv 0))
      (pss_cons (ps_if (pt_cmpR op_eq (pe_slice sl_str (pv 0) po_none (po_some pe_int)) pe_str (nomark _)) (pss_one (ps_set (i := 1) sc_L_whole.nd rfl (by first | exact Or.inl rfl | exact Or.inr rfl) (pe_slice sl_str (pv 0) (po_some pe_int) po_none))) pss_nil)
      (pss_cons (ps_if (PW.pt (pw_or (pt_cmpR op_lt (pe_callB (id := "len") call_len_str (by rfl) t.n_len (by decide +kernel) (pa_cons (pv 1) pa_nil)) pe_int (nomark _)) (pw_or (pt_cmpR op_gt (pe_callB (id := "len") call_len_str (by rfl) t.n_len (by decide +kernel) (pa_cons (pv 1) pa_nil)) pe_int (nomark _)) (pw_or1 (pt_cmpR op_gt (pe_callB (id := "len") call_lenQ (by rfl) t.n_len (by decide +kernel) (pa_cons (pe_lc (own := [("_law_sign", 2)]) (g := gName 2) rfl sc_L_whole.nd (pi_str (pv 1)) (blkOk_by (N := N_L_whole) (sc := defScope s_L_whole) (by decide +kernel)) (fun _ _ _ _ _ => (pg_name (i := 2) sc_L_whole.nd rfl (by first | exact Or.inl rfl | exact Or.inr rfl))) (fun _ _ _ _ _ => (pts_one (pt_cmpR op_notIn_sign (pv 2) pe_str (by rfl)))) (fun _ _ _ _ _ => (pv 2))) pa_nil)) pe_int (nomark _)))))) (pss_one (ps_ret pe_non)) pss_nil)
      (pss_cons (ps_if (PW.pt (pw_and (pt_cmpR op_eq (pe_ix ix_str (pv 1) pe_int (fun _ _ => rfl)) pe_str (nomark _)) (pw_and1 (pt_cmpR op_ne (pv 0) pe_str (nomark _))))) (pss_one (ps_ret pe_non)) pss_nil)
      (pss_one (ps_ret (pe_callTy (T := "int") call_int_str (by rfl) t.n_int (by decide +kernel) (pa_cons (pv 0) pa_nil)))))))), ?_⟩
    have g0 : Gr mu0 F H F H := Gr.refl sF
    have q2 : placeL l = none → ∀ H', Gr mu0 F H F H' → Q .non H' := fun e H' g => by
      have := q H' g
      rw [e] at this; exact this
    have q1 : ∀ i, placeL l = some i → ∀ H', Gr mu0 F H F H' → Q (.int i) H' := fun i e H' g => by
      have := q H' g
      rw [e] at this; exact this
    have lS : (SX.S l).length = l.length := SX.S_len l
    have lf : (SX.S (figL l)).length = (figL l).length := SX.S_len _
    have ll := figL_len l
    refine ⟨_, rfl, _, rfl, _, rfl, _, rfl, le_size (n := (SX.S l).length) (by omega), rfl, _, rfl, ?_⟩
    rw [cut1]
    refine ite2 (fun c => ?A) (fun c => ?B)
    case' A =>
      have hm := minus_iff.mp (of_decide_eq_true c)
      refine ⟨_, rfl, _, rfl, _, rfl, le_size (n := (SX.S l).length) (by omega), ?_⟩
      rw [cutd]
      refine gn13 (σ' := [some (V.str (SX.S l)), some (.str (SX.S (figL l))), none]) (by unfold figL; rw [if_pos hm]; rfl) ?_
    case' B =>
      have hm : ¬ l.take 1 = [45] := fun z => c (decide_eq_true (minus_iff.mpr z))
      unfold tNext
      generalize hs : List.set _ _ _ = σ1
      have hs : σ1 = [some (V.str (SX.S l)), some (.str (SX.S (figL l))), none] := by
        unfold figL
        rw [if_neg hm]; exact hs.symm
      subst hs
    all_goals
      refine ⟨_, rfl, _, rfl, le_size (n := (SX.S (figL l)).length) (by omega), _, _, rfl, rfl, _, rfl, ?_⟩
      by_cases c1 : 1 ≤ (figL l).length
      case neg => exact ifT (decide_eq_true (by omega)) (q2 (by unfold placeL; rw [if_neg fun z => c1 z.1]) _ g0)
      refine ifF (decide_eq_false (by omega)) ⟨_, rfl, _, rfl, le_size (n := (SX.S (figL l)).length) (by omega), _, _, rfl, rfl, _, rfl, ?_⟩
      by_cases c2 : (figL l).length ≤ 9
      case neg => exact ifT (decide_eq_true (by omega)) (q2 (by unfold placeL; rw [if_neg fun z => c2 z.2.1]) _ g0)
      refine ifF (decide_eq_false (by omega)) ?_
      refine ⟨_, rfl, _, rfl, fun D nD => lc_it walk_str (fun j G => Gr mu0 F H F G ∧ H D = none ∧ G D = some (.lst ((((figL l).take j).filter fun c => !isF c).map fun c => V.str (SX.S [c])))) ⟨g0.own nD, nD, upd_same⟩ (fun _ _ _ _ => trivial) ?_ ?_⟩
      · rintro j x G G' hj ⟨g, nD, hD⟩ ⟨rfl, c, hc, rfl⟩
        have hc := S_ix hc
        have e1 : (figL l).take (j + 1) = (figL l).take j ++ [c] := by rw [List.take_add_one, hc]; rfl
        refine ⟨rfl, _, rfl, _, _, rfl, rfl, _, rfl, ?_⟩
        rw [isF_mem, e1, List.filter_append]
        cases e : isF c with
        | false =>
          refine ifT rfl ⟨_, rfl, _, hD, by rw [List.length_map]; exact lt_size (Nat.le_trans (List.length_filter_le _ _) (by rw [List.length_take]; omega)), g.set (sF.free nD) (.inl nD), nD, ?_⟩
          rw [upd_same, List.filter_cons_of_pos (by rw [e]; rfl), List.map_append]
          rfl
        | true =>
          refine ifF rfl ⟨g, nD, ?_⟩
          rw [List.filter_cons_of_neg (by rw [e]; decide), List.filter_nil, List.append_nil]
          exact hD
      · rintro G ⟨g, nD, hD⟩
        have ej : (figL l).take (SX.S (figL l)).length = figL l := by rw [lf, List.take_length]
        have hD : G D = some (.lst (((figL l).filter fun c => !isF c).map fun c => V.str (SX.S [c]))) := by rw [← ej]; exact hD
        refine ⟨D, _, rfl, .inl (SqL.of hD), _, _, rfl, rfl, _, rfl, ?_⟩
        rw [List.length_map]
        have ea : (figL l).all isF = true ↔ ((figL l).filter fun c => !isF c).length = 0 := by
          rw [List.length_eq_zero_iff, List.filter_eq_nil_iff, List.all_eq_true]
          exact ⟨fun h x m => by rw [h x m]; decide, fun h x m => by
            have := h x m
            revert this
            cases isF x <;> decide⟩
        by_cases c3 : (figL l).all isF = true
        case neg => exact ifT (decide_eq_true (by have : ¬ ((figL l).filter fun c => !isF c).length = 0 := fun z => c3 (ea.mpr z); omega)) (q2 (by unfold placeL; rw [if_neg fun z => c3 z.2.2.1]) _ g)
        refine ifF (decide_eq_false (by have := ea.mp c3; omega)) ?_
        obtain ⟨d, r, ef⟩ : ∃ d r, figL l = d :: r := by
          cases e : figL l with
          | nil => rw [e] at c1; exact absurd c1 (by decide)
          | cons d r => exact ⟨d, r, rfl⟩
        refine ⟨_, rfl, _, _, d, rfl, rfl, le_size (n := (SX.S (figL l)).length) (by omega), by rw [ef]; exact atI_nat (j := 0) rfl, rfl, _, rfl, ?_⟩
        have fin : ∀ i, placeL l = some i → PySem.intText? (SX.S l) = some i ∧ (SX.S l).length ≤ 640 := fun i h => int_place h
        have e0 : (decide (V.str ⟨#[d]⟩ = V.str "0")) = decide (d = 48) := by
          rw [nought_S]
          exact decide_eq_decide.mpr ((strS_iff (a := [d]) (b := [48])).trans ⟨fun z => (List.cons.inj z).1, fun z => by rw [z]⟩)
        rw [e0]
        by_cases c4 : d = 48
        · refine ifT (decide_eq_true c4) ?_
          refine ⟨_, rfl, rfl, _, rfl, ?_⟩
          by_cases c5 : l = [48]
          · refine ifF (by rw [decide_eq_true (by rw [c5]; exact congrArg V.str nought_S.symm)]; rfl) ?_
            obtain ⟨i, hi⟩ : ∃ i, placeL l = some i := ⟨_, by unfold placeL; exact if_pos ⟨c1, c2, c3, .inr c5⟩⟩
            exact ⟨_, rfl, _, _, rfl, (fin i hi).1, (fin i hi).2, q1 i hi _ g⟩
          · refine ifT (by rw [decide_eq_false fun z => c5 (strS_iff.mp (z.trans (congrArg V.str nought_S)))]; rfl) (q2 ?_ _ g)
            unfold placeL
            rw [if_neg fun z => ?_]
            rcases z.2.2.2 with z | z
            · rw [ef] at z; exact z c4
            · exact c5 z
        · refine ifF (decide_eq_false c4) ?_
          obtain ⟨i, hi⟩ : ∃ i, placeL l = some i := ⟨_, by unfold placeL; exact if_pos ⟨c1, c2, c3, .inl (by rw [ef]; exact c4)⟩⟩
          exact ⟨_, rfl, _, _, rfl, (fin i hi).1, (fin i hi).2, q1 i hi _ g⟩
/-! ### the law's reading of a setup -/
theorem cutm2 (l : List Nat) : cutS (SX.S l) none (some (-2)) = SX.S (l.take (l.length - 2)) := by
  have e : HT.sIx (SX.S l).length (SX.S l).length (some (-2)) = l.length - 2 := by
    rw [SX.S_len]
    show (if (-2 : Int) < 0 then ((-2 : Int) + (l.length : Int)).toNat else min (-2 : Int).toNat l.length) = _
    rw [if_pos (by decide)]; omega
  unfold cutS
  rw [e]
  rfl
theorem cutlk (l : List Nat) (k : Nat) : cutS (SX.S l) (some (-((k + 1 : Nat) : Int))) none = SX.S (l.drop (l.length - (k + 1))) := by
  have e : HT.sIx (SX.S l).length 0 (some (-((k + 1 : Nat) : Int))) = l.length - (k + 1) := by
    rw [SX.S_len]
    show (if (-((k + 1 : Nat) : Int)) < 0 then ((-((k + 1 : Nat) : Int)) + (l.length : Int)).toNat else _) = _
    rw [if_pos (by omega)]; omega
  have e2 : HT.sIx (SX.S l).length (SX.S l).length none = l.length := SX.S_len l
  unfold cutS
  rw [e, e2]
  show (⟨((l.drop (l.length - (k + 1))).take (l.length - (l.length - (k + 1)))).toArray⟩ : Str) = _
  rw [List.take_of_length_le (by rw [List.length_drop]; exact Nat.le_refl _)]
theorem cutl2 (l : List Nat) : cutS (SX.S l) (some (-2)) none = SX.S (l.drop (l.length - 2)) := cutlk l 1
theorem cutl1 (l : List Nat) : cutS (SX.S l) (some (-1)) none = SX.S (l.drop (l.length - 1)) := cutlk l 0
def dueT (b : List Nat) : Bool := decide (b ∈ [[61, 49], [61, 50], [61, 51]])
theorem dueT_S : ("=1" : Str) = SX.S [61, 49] ∧ ("=2" : Str) = SX.S [61, 50] ∧ ("=3" : Str) = SX.S [61, 51] := ⟨by decide +kernel, by decide +kernel, by decide +kernel⟩
theorem inV_due (b : List Nat) : inV (V.str (SX.S b)) [.str "=1", .str "=2", .str "=3"] = dueT b := by
  rw [dueT_S.1, dueT_S.2.1, dueT_S.2.2]
  exact inV_strs b [[61, 49], [61, 50], [61, 51]]
def signW (l : List Nat) : Option PI := (placeL (l.take (l.length - 2))).bind fun i => if dueT (l.drop (l.length - 2)) = true then some ⟨i, (((l.drop (l.length - 1)).headD 0 : Nat) : Int) - 48⟩ else none
theorem par_app {s : Nat} : ∀ {l acc a b : List Nat}, TL.par [s] acc l = some (a, b) → acc ++ l = a ++ s :: b
  | [], acc, a, b, h => by cases h
  | c :: r, acc, a, b, h => by
    cases p : TL.pre [s] (c :: r) with
    | true =>
      rw [TL.par_hit p] at h
      have e : (c :: r).take 1 = [s] := eq_of_beq p
      have e : c = s := (List.cons.inj e).1
      cases h
      rw [e]; rfl
    | false =>
      rw [TL.par_miss p] at h
      have := par_app h
      rw [← this, List.append_assoc]; rfl
theorem place_free {l : List Nat} {i : Int} (h : placeL l = some i) : 61 ∉ l := by
  unfold placeL at h
  by_cases c : 1 ≤ (figL l).length ∧ (figL l).length ≤ 9 ∧ (figL l).all isF = true ∧ ((figL l).headD 0 ≠ 48 ∨ l = [48])
  case neg => rw [if_neg c] at h; cases h
  intro m
  have k : 61 ∈ figL l := by
    unfold figL
    by_cases z : l.take 1 = [45]
    · rw [if_pos z]
      rw [← List.take_append_drop 1 l, z] at m
      rcases List.mem_append.mp m with m | m
      · exact absurd (List.mem_singleton.mp m) (by decide)
      · exact m
    · rw [if_neg z]; exact m
  have := of_decide_eq_true (List.all_eq_true.mp c.2.2.1 61 k)
  omega
theorem signW_of {a : List Nat} {d : Nat} (hd : figT3 [d] = true) : signW (a ++ 61 :: [d]) = (placeL a).map fun i => ⟨i, (d : Int) - 48⟩ := by
  have e1 : (a ++ 61 :: [d]).length = a.length + 2 := by rw [List.length_append]; rfl
  have e2 : (a ++ 61 :: [d]).take a.length = a := List.take_left
  have e3 : (a ++ 61 :: [d]).drop a.length = [61, d] := List.drop_left
  have e4 : (a ++ 61 :: [d]).drop (a.length + 1) = [d] := by rw [← List.drop_drop, e3]; rfl
  have e5 : dueT [61, d] = true := by
    rcases of_decide_eq_true hd with e | e | e <;> (cases e; rfl)
  unfold signW
  rw [e1, show a.length + 2 - 2 = a.length by omega, show a.length + 2 - 1 = a.length + 1 by omega, e2, e3, e4, e5]
  cases placeL a <;> rfl
theorem signW_eq (l : List Nat) : signW l = signL l := by
  refine Option.ext fun c => ⟨fun h => ?_, fun h => ?_⟩
  · unfold signW at h
    cases hp : placeL (l.take (l.length - 2)) with
    | none => rw [hp] at h; cases h
    | some i =>
      rw [hp] at h
      have h : (if dueT (l.drop (l.length - 2)) = true then some (⟨i, (((l.drop (l.length - 1)).headD 0 : Nat) : Int) - 48⟩ : PI) else none) = some c := h
      by_cases k : dueT (l.drop (l.length - 2)) = true
      case neg => rw [if_neg k] at h; cases h
      have hm := of_decide_eq_true k
      obtain ⟨d, ed, hd⟩ : ∃ d, l.drop (l.length - 2) = [61, d] ∧ figT3 [d] = true := by
        rcases List.mem_cons.mp hm with e | hm
        · exact ⟨49, e, rfl⟩
        rcases List.mem_cons.mp hm with e | hm
        · exact ⟨50, e, rfl⟩
        · exact ⟨51, List.mem_singleton.mp hm, rfl⟩
      have el : l = l.take (l.length - 2) ++ 61 :: [d] := by
        have := List.take_append_drop (l.length - 2) l
        rw [ed] at this
        exact this.symm
      have hw : signW l = some c := by unfold signW; rw [hp]; exact h
      generalize l.take (l.length - 2) = a at el hp
      subst el
      have z := TL.par_part1 (s := 61) (S := []) (p := a) (rest := [d]) (acc := []) (place_free hp)
      have z : TL.par [61] [] (a ++ 61 :: [d]) = some (a, [d]) := z
      unfold signL
      rw [z]
      show (if figT3 [d] = true then (placeL a).map fun i => (⟨i, ([d].headD 0 : Int) - 48⟩ : PI) else none) = some c
      rw [if_pos hd, ← hw, signW_of hd]
      rfl
  · unfold signL at h
    cases hp : TL.par [61] [] l with
    | none => rw [hp] at h; cases h
    | some r =>
      obtain ⟨a, b⟩ := r
      rw [hp] at h
      have h : (if figT3 b = true then (placeL a).map fun i => (⟨i, (b.headD 0 : Int) - 48⟩ : PI) else none) = some c := h
      by_cases k : figT3 b = true
      case neg => rw [if_neg k] at h; cases h
      rw [if_pos k] at h
      have el : l = a ++ 61 :: b := par_app hp
      obtain ⟨d, rfl⟩ : ∃ d, b = [d] := by
        rcases of_decide_eq_true k with e | e | e <;> exact ⟨_, e⟩
      rw [el, signW_of k]
      exact h
theorem take_get {α : Type} {l : List α} {i k : Nat} {x : α} (h : (l.take i)[k]? = some x) : l[k]? = some x := by
  rw [List.getElem?_take] at h
  split at h
  · exact h
  · cases h
theorem risB_last {cs : List PI} {c d : PI} (h : risB cs = true) (hc : cs[cs.length - 1]? = some c) : risB (cs ++ [d]) = decide (c.a < d.a) := by
  have l0 := (List.getElem?_eq_some_iff.mp hc).1
  rw [Bool.eq_iff_iff, decide_eq_true_iff, risB_iff]
  constructor
  · intro k
    refine k (cs.length - 1) c d (by rw [List.getElem?_append_left l0]; exact hc) ?_
    rw [List.getElem?_append_right (by omega), show cs.length - 1 + 1 - cs.length = 0 by omega]
    rfl
  · intro lt k x y h1 h2
    have l2 := (List.getElem?_eq_some_iff.mp h2).1
    rw [List.length_append, List.length_singleton] at l2
    rw [List.getElem?_append_left (by omega)] at h1
    by_cases e : k + 1 < cs.length
    · rw [List.getElem?_append_left e] at h2
      exact (risB_iff cs).mp h k x y h1 h2
    · rw [List.getElem?_append_right (by omega), show k + 1 - cs.length = 0 by omega] at h2
      have ek : k = cs.length - 1 := by omega
      rw [ek, hc] at h1
      cases h1
      cases h2
      exact lt
theorem setupW_pre {w0 w1 : Str} {r : List Str} {cs : List PI} {i : Nat} (h2 : (r.take i).map (fun w => signL (TL.tl w)) = cs.map some) (h : risB cs = false) : setupW (w0 :: w1 :: r) = none := by
  rcases allS_cases (r.map fun w => signL (TL.tl w)) with ⟨es, ee⟩ | z
  · refine setupW_ris ee ?_
    rw [List.map_take, ee, ← List.map_take] at h2
    have e : es.take i = cs := (List.map_inj_right fun x y z => Option.some.inj z).mp h2
    cases er : risB es with
    | false => rfl
    | true =>
      have k := (risB_iff es).mp er
      rw [← e] at h
      rw [(risB_iff (es.take i)).mpr fun j c d h1 h2 => k j c d (take_get h1) (take_get h2)] at h
      cases h
  · exact setupW_sign z
def sp_L_setup_of : Sp := fun vs H Q _ => ∃ (F : Hp) (x : Str), vs = [.str x] ∧ Same F H ∧ x.length ≤ 800000 ∧ ∀ (F' H' : Hp) (v : V), Gr mu0 F H F' H' → Is F' v (setupL x) → Q v H'
theorem ok_L_setup_of (t : Tx K mg) : FnOk P w K mg base CX0 2 t.a_L_setup_of t.fd_L_setup_of ["_law_text"] sp_L_setup_of := by
  refine t.F_L_setup_of.ok sc_L_setup_of (fun vs H Q E h => ?_) (fun cdv A outer s H vs Q E hr h => ?_)
  · obtain ⟨F, x, rfl, _⟩ := h
    rfl
  · obtain ⟨F, x, rfl, sF, hx, q⟩ := h
    refine ⟨_, (pss_cons (ps_set (i := 1) sc_L_setup_of.nd rfl (by first | exact Or.inl rfl | exact Or.inr rfl) (pe_split (pv 0) pe_str))
      (pss_cons (ps_if (PW.pt (pw_or (pt_cmpR op_lt (pe_callB (id := "len") call_lenQ (by rfl) t.n_len (by decide +kernel) (pa_cons (pv 1) pa_nil)) pe_int (nomark _)) (pw_or (pt_cmpR op_gt (pe_callB (id := "len") call_lenQ (by rfl) t.n_len (by decide +kernel) (pa_cons (pv 1) pa_nil)) pe_int (nomark _)) (pw_or (pt_cmpR op_notIn_seq (pe_ix ix_list (pv 1) pe_int (fun _ _ => rfl)) (pe_lst (pa_cons pe_str (pa_cons pe_str (pa_cons pe_str (pa_cons pe_str pa_nil))))) (by rfl)) (pw_or1 (pt_cmpR op_isN (pe_call (ok_L_whole t) (hr.mono (by decide)) (by rfl) t.m_L_whole t.F_L_whole.kp t.b_L_whole .nil pass0 (pa_cons (pe_ix ix_list (pv 1) pe_int (fun _ _ => rfl)) pa_nil)) pe_non (nomark _))))))) (pss_one (ps_ret pe_non)) pss_nil)
      (pss_cons (ps_set (i := 2) sc_L_setup_of.nd rfl (by first | exact Or.inl rfl | exact Or.inr rfl) (pe_lst pa_nil))
      (pss_cons (ps_for PassesOwn.never rfl (pi_list (pe_slice sl_list (pv 1) (po_some pe_int) po_none)) (pg_name (i := 3) sc_L_setup_of.nd rfl (by first | exact Or.inl rfl | exact Or.inr rfl)) (pss_cons (ps_set (i := 4) sc_L_setup_of.nd rfl (by first | exact Or.inl rfl | exact Or.inr rfl) (pe_call (ok_L_whole t) (hr.mono (by decide)) (by rfl) t.m_L_whole t.F_L_whole.kp t.b_L_whole .nil pass0 (pa_cons (pe_slice sl_str (pv 3) po_none (po_some (pe_un un_neg pe_int))) pa_nil)))
      (pss_cons (ps_if (PW.pt (pw_or (pt_cmpR op_isN (pv 4) pe_non (nomark _)) (pw_or1 (pt_cmpR op_notIn_seq (pe_slice sl_str (pv 3) (po_some (pe_un un_neg pe_int)) po_none) (pe_lst (pa_cons pe_str (pa_cons pe_str (pa_cons pe_str pa_nil)))) (by rfl))))) (pss_one (ps_ret pe_non)) pss_nil)
      (pss_cons (ps_if (PW.pt (pw_and (pt_cmpR (op_neD hr.units) (pv 2) (pe_lst pa_nil) (nomark _)) (pw_and1 (pt_cmpR op_ge (pe_ix ix_tup (pe_ix ix_list (pv 2) (pe_un un_neg pe_int) (fun _ _ => rfl)) pe_int (fun _ _ => rfl)) (pv 4) (nomark _))))) (pss_one (ps_ret pe_non)) pss_nil)
      (pss_one (ps_expr (pe_bm PySem.F.plainAttrs_list PySem.F.slot_list_append PySem.F.type_list_append mt_append (pv 2) (pa_cons (pe_tup (pa_cons (pv 4) (pa_cons (pe_callTy (T := "int") call_int_str (by rfl) t.n_int (by decide +kernel) (pa_cons (pe_slice sl_str (pv 3) (po_some (pe_un un_neg pe_int)) po_none) pa_nil)) pa_nil))) pa_nil))))))))
      (pss_one (ps_ret (pe_tup (pa_cons (pe_m1 PySem.F.slot_str_index PySem.F.type_str_index mt_sindex pe_str (pe_ix ix_list (pv 1) pe_int (fun _ _ => rfl))) (pa_cons (pe_call (ok_L_whole t) (hr.mono (by decide)) (by rfl) t.m_L_whole t.F_L_whole.kp t.b_L_whole .nil pass0 (pa_cons (pe_ix ix_list (pv 1) pe_int (fun _ _ => rfl)) pa_nil)) (pa_cons (pv 2) pa_nil)))))))))), ?_⟩
    have g0 : Gr mu0 F H F H := Gr.refl sF
    have ls := PyProof.Rows.split_le x " "
    refine ⟨_, rfl, ⟨_, rfl⟩, _, _, rfl, rfl, by decide +kernel, le_size (n := x.length + 2) (by omega), fun W nW => ?_⟩
    have lp : ∀ p ∈ Txt.split x " ", p.length ≤ x.length := fun p m => split_part m
    unfold setupL at q
    generalize Txt.split x " " = ws at q ls lp ⊢
    have q2 : setupW ws = none → ∀ F' H', Gr mu0 F H F' H' → Q .non H' := fun e F' H' g => q F' H' .non g (by rw [e]; rfl)
    have q1 : ∀ s, setupW ws = some s → ∀ (F' H' : Hp) (v : V), Gr mu0 F H F' H' → Is F' v s → Q v H' := fun s e F' H' v g h => q F' H' v g (by rw [e]; exact h)
    have g1 := g0.own (o := .lst (ws.map V.str)) nW
    have hW : (upd H W (.lst (ws.map V.str))) W = some (.lst (ws.map V.str)) := upd_same
    generalize upd H W (.lst (ws.map V.str)) = H1 at g1 hW ⊢
    have lw : (ws.map V.str).length = ws.length := List.length_map _
    refine ⟨_, rfl, W, _, rfl, .inl (SqL.of hW), _, _, rfl, rfl, _, rfl, ?_⟩
    by_cases c1 : 2 ≤ ws.length
    case neg => exact ifT (decide_eq_true (by rw [lw]; omega)) (q2 (setupW_few fun z => c1 z.1) _ _ g1)
    refine ifF (decide_eq_false (by rw [lw]; omega)) ⟨_, rfl, W, _, rfl, .inl (SqL.of hW), _, _, rfl, rfl, _, rfl, ?_⟩
    by_cases c2 : ws.length ≤ 42
    case neg => exact ifT (decide_eq_true (by rw [lw]; omega)) (q2 (setupW_few fun z => c2 z.2) _ _ g1)
    refine ifF (decide_eq_false (by rw [lw]; omega)) ?_
    obtain ⟨w0, w1, r, rfl⟩ : ∃ w0 w1 r, ws = w0 :: w1 :: r := by
      match ws, c1 with
      | w0 :: w1 :: r, _ => exact ⟨w0, w1, r, rfl⟩
    have lr : r.length ≤ 40 := by rw [List.length_cons, List.length_cons] at c2; omega
    have l1 := lp w1 (List.mem_cons_of_mem _ List.mem_cons_self)
    refine ⟨_, rfl, W, _, _, _, rfl, rfl, SqL.of hW, atI_nat (j := 0) rfl, four_le, fun D nD => ⟨D, _, rfl, .inl (SqL.of upd_same), rfl, by decide +kernel, _, rfl, ?_⟩⟩
    have g2 := g1.own (o := .lst [.str "A", .str "B", .str "C", .str "D"]) nD
    have hW2 := ln (u := .lst [.str "A", .str "B", .str "C", .str "D"]) nD hW
    generalize upd H1 D (.lst [.str "A", .str "B", .str "C", .str "D"]) = H2 at g2 hW2 ⊢
    have ei := inV_four w0
    cases ha : rowL (TL.tl w0) with
    | none =>
      rw [ha] at ei
      exact ifT (congrArg (fun b => !b) ei) (q2 (setupW_row ha) _ _ g2)
    | some a =>
      rw [ha] at ei
      refine ifF (congrArg (fun b => !b) ei) ?_
      refine ⟨_, rfl, W, _, _, _, rfl, rfl, SqL.of hW2, atI_nat (j := 1) rfl, F, TL.tl w1, str_S w1, g2.fh, by rw [← TL.len_tl]; omega, fun H3 g3 => ?_⟩
      have k3 := g2.trans g3
      have hW3 := g3.fr _ _ hW2 (fun z => z)
      cases hi : placeL (TL.tl w1) with
      | none => exact ⟨rfl, _, rfl, ifT rfl (q2 (setupW_place hi) _ _ k3)⟩
      | some i =>
        refine ⟨rfl, _, rfl, ifF rfl ?_⟩
        refine ⟨nil_le, fun L nL => ?_⟩
        have k4 := k3.own (o := .lst []) nL
        have hW4 := ln (u := .lst []) nL hW3
        have wL : Ow H F (upd H3 L (.lst [])) L (.lst []) := Ow.mk1 k3 nL
        have WL : W ≠ L := ne_of_none hW3 nL
        generalize upd H3 L (.lst []) = H4 at k4 hW4 wL ⊢
        refine ⟨_, rfl, _, rfl, W, _, rfl, SqL.of hW4, fun S nS => ?_⟩
        rw [show cutV ((w0 :: w1 :: r).map V.str) (some 2) none = r.map V.str from cut_two]
        have k5 := k4.own (o := .lst (r.map V.str)) nS
        have hW5 := ln (u := .lst (r.map V.str)) nS hW4
        have w5 := wL.own (u := .lst (r.map V.str)) nS
        have LS : L ≠ S := wL.ne nS
        have hS : (upd H4 S (.lst (r.map V.str))) S = some (.lst (r.map V.str)) := upd_same
        generalize upd H4 S (.lst (r.map V.str)) = H5 at k5 hW5 w5 hS ⊢
        refine ⟨S, rfl, ⟨_, SqL.of hS⟩, for_list (K := K) (a := S) (xs := r.map V.str) (fun j σ G => ∃ (F2 : Hp) (xs : List V) (cs : List PI) (v3 v4 : Option V), σ = [some (.str x), some (.ref W), some (.ref L), v3, v4] ∧ Gr mu0 F H F2 G ∧ G S = some (.lst (r.map V.str)) ∧ G W = some (.lst ((w0 :: w1 :: r).map V.str)) ∧ Ow H F2 G L (.lst xs) ∧ IsAll F2 xs cs ∧ (r.take j).map (fun w => signL (TL.tl w)) = cs.map some ∧ risB cs = true)
          ⟨F, [], [], none, none, rfl, k5, hS, hW5, w5, All2.nil, rfl, rfl⟩ (fun j σ G _ p => SqL.of p.choose_spec.choose_spec.choose_spec.choose_spec.choose_spec.2.2.1) ?_ ?_⟩
        · rintro j y σ G hj ⟨F2, xs, cs, v3, v4, rfl, g, hSG, hWG, w, al, ec, hris⟩
          obtain ⟨z, hz, rfl⟩ : ∃ z, r[j]? = some z ∧ V.str z = y := by
            rw [List.getElem?_map] at hj
            exact Option.map_eq_some_iff.mp hj
          have mz := List.mem_of_getElem? hz
          have lz := lp z (List.mem_cons_of_mem _ (List.mem_cons_of_mem _ mz))
          have il := (List.getElem?_eq_some_iff.mp hz).1
          have lcs : xs.length ≤ j := by
            have := congrArg List.length ec
            rw [List.length_map, List.length_map, List.length_take] at this
            rw [al.1]; omega
          obtain ⟨l, rfl⟩ := mk_S z
          have sz : signL (TL.tl (SX.S l)) = signW l := (signW_eq l).symm
          have lS : (SX.S l).length = l.length := SX.S_len l
          refine ⟨_, rfl, _, rfl, _, rfl, _, rfl, le_size (n := (SX.S l).length) (by omega), F2, l.take (l.length - 2), congrArg (fun z => [V.str z]) (cutm2 l), g.fh, by rw [List.length_take]; omega, fun G4 g4 => ?_⟩
          have k6 := g.trans g4
          have w6 := w.call g4 (fun z => z)
          have hS6 := g4.fr _ _ hSG (fun z => z)
          have hW6 := g4.fr _ _ hWG (fun z => z)
          cases hp : placeL (l.take (l.length - 2)) with
          | none => exact ⟨_, rfl, rfl, _, rfl, ifT rfl (q2 (setupW_sign (List.mem_map.mpr ⟨_, mz, by rw [sz]; unfold signW; rw [hp]; rfl⟩)) _ _ k6)⟩
          | some e =>
            refine ⟨_, rfl, rfl, _, rfl, ifF rfl ?_⟩
            refine ⟨_, rfl, _, rfl, _, rfl, _, rfl, le_size (n := (SX.S l).length) (by omega), three_le, fun D nD => ⟨D, _, rfl, .inl (SqL.of upd_same), rfl, by decide +kernel, _, rfl, ?_⟩⟩
            have k7 := k6.own (o := .lst [.str "=1", .str "=2", .str "=3"]) nD
            have hS7 := ln (u := .lst [.str "=1", .str "=2", .str "=3"]) nD hS6
            have hW7 := ln (u := .lst [.str "=1", .str "=2", .str "=3"]) nD hW6
            have w7 := w6.own (u := .lst [.str "=1", .str "=2", .str "=3"]) nD
            generalize upd G4 D (.lst [.str "=1", .str "=2", .str "=3"]) = G7 at k7 hS7 hW7 w7 ⊢
            have edue : inV (V.str (cutS (SX.S l) (some (-2)) none)) [.str "=1", .str "=2", .str "=3"] = dueT (l.drop (l.length - 2)) := by rw [cutl2]; exact inV_due _
            have esw : signW l = if dueT (l.drop (l.length - 2)) = true then some (⟨e, (((l.drop (l.length - 1)).headD 0 : Nat) : Int) - 48⟩ : PI) else none := by unfold signW; rw [hp]; rfl
            by_cases cd : dueT (l.drop (l.length - 2)) = true
            case neg => exact ifT ((congrArg (fun b => !b) edue).trans (by rw [Bool.eq_false_iff.mpr cd]; rfl)) (q2 (setupW_sign (List.mem_map.mpr ⟨_, mz, by rw [sz, esw, if_neg cd]⟩)) _ _ k7)
            refine ifF ((congrArg (fun b => !b) edue).trans (by rw [cd]; rfl)) ?_
            rw [if_pos cd] at esw
            have hsg : signL (TL.tl (SX.S l)) = some ⟨e, (((l.drop (l.length - 1)).headD 0 : Nat) : Int) - 48⟩ := sz.trans esw
            obtain ⟨d, hd, hd3⟩ : ∃ d, l.drop (l.length - 1) = [d] ∧ figT3 [d] = true := by
              have hm := of_decide_eq_true cd
              obtain ⟨d, ed, hd⟩ : ∃ d, l.drop (l.length - 2) = [61, d] ∧ figT3 [d] = true := by
                rcases List.mem_cons.mp hm with e | hm
                · exact ⟨49, e, rfl⟩
                rcases List.mem_cons.mp hm with e | hm
                · exact ⟨50, e, rfl⟩
                · exact ⟨51, List.mem_singleton.mp hm, rfl⟩
              have ll := congrArg List.length ed
              rw [List.length_drop] at ll
              have ll : l.length - (l.length - 2) = 2 := ll
              refine ⟨d, ?_, hd⟩
              rw [show l.length - 1 = (l.length - 2) + 1 by omega, ← List.drop_drop, ed]; rfl
            rw [hd] at hsg
            have hsg : signL (TL.tl (SX.S l)) = some ⟨e, (d : Int) - 48⟩ := hsg
            have ecn := take_some (f := fun w => signL (TL.tl w)) hz hsg ec
            have lx : xs.length = cs.length := al.1
            -- behind the last one
            have fin : risB (cs ++ [(⟨e, (d : Int) - 48⟩ : PI)]) = true → ∀ G8, Gr mu0 F H F2 G8 → G8 S = some (.lst (r.map V.str)) → G8 W = some (.lst ((w0 :: w1 :: r).map V.str)) → Ow H F2 G8 L (.lst xs) → ∀ (u : Addr), G8 u = none → (∃ (F2' : Hp) (xs' : List V) (cs' : List PI) (v3 v4 : Option V), [some (V.str x), some (.ref W), some (.ref L), some (.str (SX.S l)), some (.int e)] = [some (.str x), some (.ref W), some (.ref L), v3, v4] ∧ Gr mu0 F H F2' (upd (upd G8 u (.tup [.int e, .int ((d : Int) - 48)])) L (.lst (xs ++ [.ref u]))) ∧ (upd (upd G8 u (.tup [.int e, .int ((d : Int) - 48)])) L (.lst (xs ++ [.ref u]))) S = some (.lst (r.map V.str)) ∧ (upd (upd G8 u (.tup [.int e, .int ((d : Int) - 48)])) L (.lst (xs ++ [.ref u]))) W = some (.lst ((w0 :: w1 :: r).map V.str)) ∧ Ow H F2' (upd (upd G8 u (.tup [.int e, .int ((d : Int) - 48)])) L (.lst (xs ++ [.ref u]))) L (.lst xs') ∧ IsAll F2' xs' cs' ∧ (r.take (j + 1)).map (fun w => signL (TL.tl w)) = cs'.map some ∧ risB cs' = true) := fun hr2 G8 k8 hS8 hW8 w8 u nu => by
              have k9 := k8.new (o := .tup [.int e, .int ((d : Int) - 48)]) nu
              have w9 := w8.new (u := .tup [.int e, .int ((d : Int) - 48)]) nu
              have hu : (upd F2 u (.tup [.int e, .int ((d : Int) - 48)])) u = some (.tup [.int e, .int ((d : Int) - 48)]) := upd_same
              have s9 : Same F2 (upd F2 u (.tup [.int e, .int ((d : Int) - 48)])) := sm_up (k8.fh.free nu)
              exact ⟨_, xs ++ [.ref u], cs ++ [⟨e, (d : Int) - 48⟩], _, _, rfl, k9.set w9.f (.inl w9.n), by rw [upd_ne LS.symm]; exact ln nu hS8, by rw [upd_ne WL]; exact ln nu hW8, w9.set, (al.up s9).app (All2.one ⟨u, _, _, rfl, hu, rfl, rfl⟩), ecn, hr2⟩
            have eint : PySem.intText? (cutS (SX.S l) (some (-1)) none) = some ((d : Int) - 48) ∧ (cutS (SX.S l) (some (-1)) none).length ≤ 640 := by
              rw [cutl1, hd]; exact int_fig3 hd3
            refine ⟨_, rfl, nil_le, fun U nU => ?_⟩
            have k8 := k7.own (o := .lst []) nU
            have hS8 := ln (u := .lst []) nU hS7
            have hW8 := ln (u := .lst []) nU hW7
            have w8 := w7.own (u := .lst []) nU
            refine ne_dat (a := cs) (b := ([] : List PI)) ⟨L, xs, rfl, w8.h, al.up k8.fh⟩ ⟨U, [], rfl, upd_same, All2.nil⟩ ⟨_, rfl, ?_⟩
            generalize upd G7 U (.lst []) = G8 at k8 hS8 hW8 w8 ⊢
            by_cases c0 : cs = []
            · refine ifF (by rw [decide_eq_true c0]; rfl) ?_
              refine ⟨_, rfl, .inl ⟨rfl, _, SqL.of w8.h⟩, ?_⟩
              refine ⟨_, rfl, _, rfl, _, rfl, _, rfl, _, rfl, le_size (n := (SX.S l).length) (by omega), _, _, rfl, eint.1, eint.2, two_le, fun u nu => ⟨L, _, _, rfl, rfl, ln nu w8.h, lt_size (by omega), ?_⟩⟩
              exact fin (by rw [c0]; rfl) G8 k8 hS8 hW8 w8 u nu
            · refine ifT (by rw [decide_eq_false c0]; rfl) ?_
              have p0 : 0 < cs.length := List.length_pos_iff.mpr c0
              have hlast : cs[cs.length - 1]? = some cs[cs.length - 1] := List.getElem?_eq_getElem (by omega)
              obtain ⟨y, hy, p, y1, y2, rfl, hp1, d1, d2⟩ := al.get hlast
              have d1 : y1 = .int (cs[cs.length - 1]).a := d1
              subst d1
              have er := risB_last (d := (⟨e, (d : Int) - 48⟩ : PI)) hris hlast
              refine ⟨_, rfl, _, rfl, L, _, _, _, rfl, rfl, SqL.of w8.h, at_end (k := cs.length - 1) (by omega) hy, p, _, _, _, rfl, rfl, SqT.of (k8.fh _ _ hp1), atI_nat (j := 0) rfl, _, rfl, _, _, rfl, rfl, _, rfl, ?_⟩
              by_cases lt : (cs[cs.length - 1]).a < e
              · refine ifF (decide_eq_false (by omega)) ?_
                refine ⟨_, rfl, .inl ⟨rfl, _, SqL.of w8.h⟩, ?_⟩
                refine ⟨_, rfl, _, rfl, _, rfl, _, rfl, _, rfl, le_size (n := (SX.S l).length) (by omega), _, _, rfl, eint.1, eint.2, two_le, fun u nu => ⟨L, _, _, rfl, rfl, ln nu w8.h, lt_size (by omega), ?_⟩⟩
                exact fin (by rw [er]; exact decide_eq_true lt) G8 k8 hS8 hW8 w8 u nu
              · exact ifT (decide_eq_true (by omega)) (q2 (setupW_pre ecn (by rw [er]; exact decide_eq_false lt)) _ _ k8)
        · rintro σ G ⟨F2, xs, cs, v3, v4, rfl, g, hSG, hWG, w, al, ec, hris⟩
          rw [List.length_map, List.take_length] at ec
          obtain ⟨ka, rfl, hocc⟩ := rowL_occ ha
          refine ⟨⟨_, rfl⟩, _, rfl, W, _, _, _, rfl, rfl, SqL.of hWG, atI_nat (j := 0) rfl, _, _, _, _, rfl, rfl, hocc, ?_⟩
          refine ⟨_, rfl, W, _, _, _, rfl, rfl, SqL.of hWG, atI_nat (j := 1) rfl, F2, TL.tl w1, str_S w1, g.fh, by rw [← TL.len_tl]; omega, fun H5 g5 => ⟨_, rfl, three_le, fun u nu => ?_⟩⟩
          rw [hi]
          have w5 := w.call g5 (fun z => z)
          have k6 := (g.trans g5).frz w5.h w5.n w5.f
          refine q1 _ (setupW_some lr ha hi ec hris) _ _ _ (k6.new nu) ⟨u, _, _, _, rfl, upd_same, rfl, rfl, L, xs, rfl, ?_, ?_⟩
          · have : L ≠ u := ne_of_none w5.h nu
            rw [upd_ne this, upd_same]
          · refine al.up fun c o h => ?_
            have n1 : c ≠ L := ne_of_none h w5.f
            have n2 : c ≠ u := ne_of_none (g5.fh _ _ h) nu
            rw [upd_ne n2, upd_ne n1]; exact h
/-! ### list.count(True) of a list of truths (wants HandS.SetFor) -/
def eqb (b : Bool) (v : Value) : Bool := match v with
  | .bool c => c == b
  | _ => false
theorem bools_eq {A : Around} {s : Shared} {b : Bool} : ∀ {us : List Value} {bs : List Bool}, Vals (bs.map V.bl) us → ∀ y ∈ us, SeqAt.EqAt A s y (.bool b) (eqb b y)
  | us, [], h => fun y hy => by cases h; cases hy
  | us, c :: bs, h => fun y hy => by
    cases h with
    | cons r h =>
      rcases List.mem_cons.mp hy with e | e
      · subst e
        obtain rfl : y = .bool c := r
        exact SeqAt.EqAt.bool_bool c b
      · exact bools_eq h y e
theorem bools_count {b : Bool} : ∀ {us : List Value} {bs : List Bool}, Vals (bs.map V.bl) us → us.countP (eqb b) = bs.count b
  | us, [], h => by cases h; rfl
  | us, c :: bs, h => by
    cases h with
    | cons r h =>
      rename_i u us
      obtain rfl : u = .bool c := r
      rw [List.countP_cons, List.count_cons, bools_count h]; rfl
def rCntB (K : PySem.W.Frag) : V → List V → Hp → VK → Prop := fun x xs H Q => ∃ (p : Addr) (bs : List Bool) (b : Bool), x = .ref p ∧ xs = [.bl b] ∧ SqL K H p (bs.map V.bl) ∧ Q (.int (bs.count b : Nat)) H
theorem mt_lcountB {X : Cx} : MtR X "list.count" (rCntB X.K) := by
  intro pins s σ H x xs v us Q I rx rxs h
  obtain ⟨p, bs, b, rfl, rfl, hs, q⟩ := h
  cases rx
  obtain ⟨u, rfl, ru⟩ := rxs.one
  obtain rfl : u = .bool b := ru
  obtain ⟨its, rv, ⟨⟨cls, dd, data, sl⟩, n, ho, hc, hdn, hd⟩, hlen⟩ := I.list hs
  simp only at hc hd
  subst hc hd
  refine call_meets PySem.F.slot_list_count ⟨_, ho, rfl⟩ PySem.F.entry_list_count (PySem.F.args_list_count_2 _ _)
    (SeqAt.list_countAt p its.toArray n dd sl (.bool b) (eqb b)) ⟨ho, fun y hy => bools_eq rv y (by simpa using hy), ?_⟩
  have ec : its.toArray.toList.countP (eqb b) = bs.count b := bools_count rv
  refine ⟨.int (bs.count b : Nat), H, I.tok _, ⟨s.toks, ?_⟩, q⟩
  show Value.int ((its.toArray.toList.countP (eqb b) : Nat) : Int) s.toks = Value.int ((bs.count b : Nat) : Int) s.toks
  rw [ec]
def sp_L_word (C : Addr) : Sp := fun vs H Q _ => ∃ (F : Hp) (a : Addr), vs = [.ref a] ∧ Same F H ∧ H a = some (Kp a (.ref C) none) ∧ ∀ H', Gr mu0 F H F H' → Q (.str "text") H'
theorem ok_L_word (t : Tx K mg) : FnOk P w K mg base CX0 1 t.a_L_word t.fd_L_word ["_law_caught"] (sp_L_word t.C_NoText) := by
  refine t.F_L_word.ok sc_L_word (fun vs H Q E h => ?_) (fun cdv A outer s H vs Q E hr h => ?_)
  · obtain ⟨F, a, rfl, _⟩ := h
    rfl
  · obtain ⟨F, a, rfl, sF, ha, q⟩ := h
    refine ⟨_, (pss_cons (ps_set (i := 1) sc_L_word.nd rfl (by first | exact Or.inl rfl | exact Or.inr rfl) (pe_lst (pa_cons (pe_callB (id := "isinstance") call_isK (by rfl) t.n_isinstance (by decide +kernel) (pa_cons (pv 0) (pa_cons (pe_glob (v := .ref t.C_NoMachine) (by rfl) t.m_NoMachine rfl) pa_nil))) (pa_cons (pe_callB (id := "isinstance") call_isK (by rfl) t.n_isinstance (by decide +kernel) (pa_cons (pv 0) (pa_cons (pe_glob (v := .ref t.C_NoText) (by rfl) t.m_NoText rfl) pa_nil))) (pa_cons (pe_callB (id := "isinstance") call_isK (by rfl) t.n_isinstance (by decide +kernel) (pa_cons (pv 0) (pa_cons (pe_glob (v := .ref t.C_NoName) (by rfl) t.m_NoName rfl) pa_nil))) pa_nil)))))
      (pss_cons (ps_set (i := 1) sc_L_word.nd rfl (by first | exact Or.inl rfl | exact Or.inr rfl) (pe_op op_cat (pv 1) (pe_lst (pa_cons (pe_callB (id := "isinstance") call_isK (by rfl) t.n_isinstance (by decide +kernel) (pa_cons (pv 0) (pa_cons (pe_glob (v := .ref t.C_Twice) (by rfl) t.m_Twice rfl) pa_nil))) (pa_cons (pe_callB (id := "isinstance") call_isK (by rfl) t.n_isinstance (by decide +kernel) (pa_cons (pv 0) (pa_cons (pe_glob (v := .ref t.C_Full) (by rfl) t.m_Full rfl) pa_nil))) (pa_cons (pe_callB (id := "isinstance") call_isK (by rfl) t.n_isinstance (by decide +kernel) (pa_cons (pv 0) (pa_cons (pe_glob (v := .ref t.C_NoSuch) (by rfl) t.m_NoSuch rfl) pa_nil))) pa_nil))))))
      (pss_cons (ps_set (i := 1) sc_L_word.nd rfl (by first | exact Or.inl rfl | exact Or.inr rfl) (pe_op op_cat (pv 1) (pe_lst (pa_cons (pe_callB (id := "isinstance") call_isK (by rfl) t.n_isinstance (by decide +kernel) (pa_cons (pv 0) (pa_cons (pe_glob (v := .ref t.C_NoPaper) (by rfl) t.m_NoPaper rfl) pa_nil))) (pa_cons (pe_callB (id := "isinstance") call_isK (by rfl) t.n_isinstance (by decide +kernel) (pa_cons (pv 0) (pa_cons (pe_glob (v := .ref t.C_NoDeed) (by rfl) t.m_NoDeed rfl) pa_nil))) (pa_cons (pe_callB (id := "isinstance") call_isK (by rfl) t.n_isinstance (by decide +kernel) (pa_cons (pv 0) (pa_cons (pe_glob (v := .ref t.C_NoSize) (by rfl) t.m_NoSize rfl) pa_nil))) pa_nil))))))
      (pss_cons (ps_if (PW.pt (pw_or (pt_not (pt_val (pe_callB (id := "isinstance") call_isK (by rfl) t.n_isinstance (by decide +kernel) (pa_cons (pv 0) (pa_cons (pe_glob (v := .ref t.C_MillError) (by rfl) t.m_MillError rfl) pa_nil))))) (pw_or (pt_not (pt_val (pe_callB (id := "isinstance") call_isK (by rfl) t.n_isinstance (by decide +kernel) (pa_cons (pv 0) (pa_cons (pe_bltn (v := .ty "ValueError") (by rfl) t.n_ValueError (by decide +kernel) rfl) pa_nil))))) (pw_or1 (pt_cmpR op_ne (pe_bm PySem.F.plainAttrs_list PySem.F.slot_list_count PySem.F.type_list_count mt_lcountB (pv 1) (pa_cons pe_bl pa_nil)) pe_int (nomark _)))))) (pss_one (ps_ret pe_str)) pss_nil)
      (pss_one (ps_ret (pe_ix ix_list (pe_lst (pa_cons pe_str (pa_cons pe_str (pa_cons pe_str (pa_cons pe_str (pa_cons pe_str (pa_cons pe_str (pa_cons pe_str (pa_cons pe_str (pa_cons pe_str pa_nil)))))))))) (pe_bm PySem.F.plainAttrs_list PySem.F.slot_list_index PySem.F.type_list_index mt_index (pv 1) (pa_cons pe_bl pa_nil)) (fun _ _ => rfl)))))))), ?_⟩
    have g0 : Gr mu0 F H F H := Gr.refl sF
    refine ⟨_, rfl, rIsK.mk (cv := .ref t.C_NoMachine) ha (ec_NoText t) (fun u r => r) (kit_own t.i_NoMachine t.t_NoMachine t.s_NoText_NoMachine t.se_NoMachine) ?_⟩
    refine ⟨_, rfl, rIsK.mk (cv := .ref t.C_NoText) ha (ec_NoText t) (fun u r => r) (kit_own t.i_NoText t.t_NoText t.s_NoText_NoText t.se_NoText) ?_⟩
    refine ⟨_, rfl, rIsK.mk (cv := .ref t.C_NoName) ha (ec_NoText t) (fun u r => r) (kit_own t.i_NoName t.t_NoName t.s_NoText_NoName t.se_NoName) ⟨three_le, fun l1 n1 => ?_⟩⟩
    have g1 := g0.own (o := .lst [.bl false, .bl true, .bl false]) n1
    have ha1 := ln (u := .lst [.bl false, .bl true, .bl false]) n1 ha
    have h1 : (upd H l1 (.lst [.bl false, .bl true, .bl false])) l1 = some (.lst [.bl false, .bl true, .bl false]) := upd_same
    generalize upd H l1 (.lst [.bl false, .bl true, .bl false]) = H1 at g1 ha1 h1 ⊢
    refine ⟨_, rfl, ?_⟩
    refine ⟨_, rfl, rIsK.mk (cv := .ref t.C_Twice) ha1 (ec_NoText t) (fun u r => r) (kit_own t.i_Twice t.t_Twice t.s_NoText_Twice t.se_Twice) ?_⟩
    refine ⟨_, rfl, rIsK.mk (cv := .ref t.C_Full) ha1 (ec_NoText t) (fun u r => r) (kit_own t.i_Full t.t_Full t.s_NoText_Full t.se_Full) ?_⟩
    refine ⟨_, rfl, rIsK.mk (cv := .ref t.C_NoSuch) ha1 (ec_NoText t) (fun u r => r) (kit_own t.i_NoSuch t.t_NoSuch t.s_NoText_NoSuch t.se_NoSuch) ⟨three_le, fun l2 n2 => ?_⟩⟩
    refine ⟨l1, l2, _, _, rfl, rfl, ln n2 h1, upd_same, le_size (by show 3 + 3 ≤ 1000000; decide), fun l3 n3 => ?_⟩
    have g3 := (g1.own (o := .lst [.bl false, .bl false, .bl false]) n2).own (o := .lst ([.bl false, .bl true, .bl false] ++ [.bl false, .bl false, .bl false])) n3
    have ha3 := ln (u := .lst ([.bl false, .bl true, .bl false] ++ [.bl false, .bl false, .bl false])) n3 (ln (u := .lst [.bl false, .bl false, .bl false]) n2 ha1)
    have h3 : (upd (upd H1 l2 (.lst [.bl false, .bl false, .bl false])) l3 (.lst ([.bl false, .bl true, .bl false] ++ [.bl false, .bl false, .bl false]))) l3 = some (.lst [.bl false, .bl true, .bl false, .bl false, .bl false, .bl false]) := upd_same
    generalize upd (upd H1 l2 (.lst [.bl false, .bl false, .bl false])) l3 (.lst ([.bl false, .bl true, .bl false] ++ [.bl false, .bl false, .bl false])) = H3 at g3 ha3 h3 ⊢
    refine ⟨_, rfl, ?_⟩
    refine ⟨_, rfl, rIsK.mk (cv := .ref t.C_NoPaper) ha3 (ec_NoText t) (fun u r => r) (kit_own t.i_NoPaper t.t_NoPaper t.s_NoText_NoPaper t.se_NoPaper) ?_⟩
    refine ⟨_, rfl, rIsK.mk (cv := .ref t.C_NoDeed) ha3 (ec_NoText t) (fun u r => r) (kit_own t.i_NoDeed t.t_NoDeed t.s_NoText_NoDeed t.se_NoDeed) ?_⟩
    refine ⟨_, rfl, rIsK.mk (cv := .ref t.C_NoSize) ha3 (ec_NoText t) (fun u r => r) (kit_own t.i_NoSize t.t_NoSize t.s_NoText_NoSize t.se_NoSize) ⟨three_le, fun l4 n4 => ?_⟩⟩
    refine ⟨l3, l4, _, _, rfl, rfl, ln n4 h3, upd_same, le_size (by show 6 + 3 ≤ 1000000; decide), fun l5 n5 => ?_⟩
    have g5 := (g3.own (o := .lst [.bl false, .bl false, .bl false]) n4).own (o := .lst ([.bl false, .bl true, .bl false, .bl false, .bl false, .bl false] ++ [.bl false, .bl false, .bl false])) n5
    have ha5 := ln (u := .lst ([.bl false, .bl true, .bl false, .bl false, .bl false, .bl false] ++ [.bl false, .bl false, .bl false])) n5 (ln (u := .lst [.bl false, .bl false, .bl false]) n4 ha3)
    have h5 : (upd (upd H3 l4 (.lst [.bl false, .bl false, .bl false])) l5 (.lst ([.bl false, .bl true, .bl false, .bl false, .bl false, .bl false] ++ [.bl false, .bl false, .bl false]))) l5 = some (.lst ([false, true, false, false, false, false, false, false, false].map V.bl)) := upd_same
    generalize upd (upd H3 l4 (.lst [.bl false, .bl false, .bl false])) l5 (.lst ([.bl false, .bl true, .bl false, .bl false, .bl false, .bl false] ++ [.bl false, .bl false, .bl false])) = H5 at g5 ha5 h5 ⊢
    refine ⟨_, rfl, rIsK.mk (cv := .ref t.C_MillError) ha5 (ec_NoText t) (fun u r => r) (kit_own t.i_MillError t.t_MillError t.s_NoText_MillError t.se_MillError) ⟨_, rfl, ifF rfl ?_⟩⟩
    refine ⟨_, rfl, rIsK.mk (cv := .type "ValueError") ha5 (ec_NoText t) (fun u r => r) (kit_blt t.s_NoText_ValueError) ⟨_, rfl, ifF rfl ?_⟩⟩
    refine ⟨_, rfl, .inl ⟨rfl, _, SqL.of h5⟩, l5, _, true, rfl, rfl, SqL.of h5, rfl, _, rfl, ifF rfl ?_⟩
    refine ⟨le_size (by show 9 ≤ 1000000; decide), fun l6 n6 => ?_⟩
    have g6 := g5.own (o := .lst [.str "machine", .str "text", .str "name", .str "twice", .str "full", .str "such", .str "paper", .str "deed", .str "size"]) n6
    have h6 := ln (u := .lst [.str "machine", .str "text", .str "name", .str "twice", .str "full", .str "such", .str "paper", .str "deed", .str "size"]) n6 h5
    refine ⟨_, rfl, .inl ⟨rfl, _, SqL.of h6⟩, l5, _, _, 1, .bl true, rfl, rfl, SqL.of h6, rfl, rfl, rfl, rfl, fun m z' hm hz => ?_, ?_⟩
    · have e0 : m = 0 := by omega
      subst e0
      cases hz
      rfl
    · exact ⟨l6, _, _, _, rfl, rfl, SqL.of upd_same, rfl, q _ g6⟩
/-! ### a setup read, or the refusal kept -/
def sp_L_read (C : Addr) : Sp := fun vs H Q _ => ∃ (F : Hp) (x : Str), vs = [.str x] ∧ Same F H ∧ x.length ≤ 100000 ∧
  (∀ s, setupL x = some s → ∀ (F' H' : Hp) (v : V) (u : Addr), Gr mu0 F H F' H' → Is F' v s → H' u = some (.lst [v, .non]) → Q (.ref u) H') ∧
  (setupL x = none → ∀ (H' : Hp) (a u : Addr), Gr mu0 F H F H' → H' a = some (Kp a (.ref C) none) → H' u = some (.lst [.non, .ref a]) → Q (.ref u) H')
theorem ok_L_read (t : Tx K mg) : FnOk P w K mg base CX0 5 t.a_L_read t.fd_L_read ["_law_text"] (sp_L_read t.C_NoText) := by
  refine t.F_L_read.ok sc_L_read (fun vs H Q E h => ?_) (fun cdv A outer s H vs Q E hr h => ?_)
  · obtain ⟨F, x, rfl, _⟩ := h
    rfl
  · obtain ⟨F, x, rfl, sF, hx, q1, q2⟩ := h
    refine ⟨_, (pss_cons (ps_set (i := 1) sc_L_read.nd rfl (by first | exact Or.inl rfl | exact Or.inr rfl) pe_non)
      (pss_cons (ps_set (i := 2) sc_L_read.nd rfl (by first | exact Or.inl rfl | exact Or.inr rfl) pe_non)
      (pss_cons (ps_try_kp (i := 3) rfl rfl sc_L_read.nd rfl rfl ⟨by rfl, by decide, .inl t.m_MillError⟩ (fun W pn xe tk _ => (pss_one (ps_set (i := 1) sc_L_read.nd rfl (by first | exact Or.inl rfl | exact Or.inr rfl) (pe_callS (okx_read_setup t) (hr.mono (by decide)) (by rfl) t.m_read_setup t.F_read_setup.kp t.b_read_setup (fun σ => passAt tk σ) (pa_cons (pv 0) pa_nil))))) (fun a oe cls d pn hz hf => (pss_one (ps_set (i := 2) sc_L_read.nd rfl (by first | exact Or.inl rfl | exact Or.inr rfl) (pv 3)))))
      (pss_one (ps_ret (pe_lst (pa_cons (pv 1) (pa_cons (pv 2) pa_nil)))))))), ?_⟩
    have g0 : Gr mu0 F H F H := Gr.refl sF
    refine ⟨_, rfl, F, x, rfl, sF, by omega, fun s hs F1 H1 v g hv => ?_, fun hno H1 g => ⟨em_NoText_MillError t, fun a na => ?_⟩⟩
    · refine ⟨_, rfl, _, rfl, two_le, fun u nu => ?_⟩
      exact q1 s hs F1 _ v u (g.own nu) hv upd_same
    · have g6 := g.own (o := Kp a (.ref t.C_NoText) none) na
      have ha : (upd H1 a (Kp a (.ref t.C_NoText) none)) a = some (Kp a (.ref t.C_NoText) none) := upd_same
      refine ⟨_, rfl, _, rfl, _, rfl, two_le, fun u nu => ?_⟩
      exact q2 hno _ a u (g6.own nu) (ln nu ha) upd_same
/-! ### alike: numbers, and lists and tuples of these (a def that calls itself) -/
def Sm (F : Hp) : Nat → V → V → Prop
  | 0, v, u => ∃ i, v = .int i ∧ u = .int i
  | n + 1, v, u => (∃ i, v = .int i ∧ u = .int i) ∨ ∃ a b xs ys, v = .ref a ∧ u = .ref b ∧ ((F a = some (.lst xs) ∧ F b = some (.lst ys)) ∨ (F a = some (.tup xs) ∧ F b = some (.tup ys))) ∧ xs.length = ys.length ∧ xs.length ≤ 1000 ∧ ∀ (k : Nat) (x y : V), xs[k]? = some x → ys[k]? = some y → Sm F n x y
theorem Sm.up {F F' : Hp} (s : Same F F') : ∀ {n : Nat} {v u : V}, Sm F n v u → Sm F' n v u
  | 0, _, _, h => h
  | n + 1, _, _, .inl h => .inl h
  | n + 1, _, _, .inr ⟨a, b, xs, ys, e1, e2, h, l, l2, k⟩ => .inr ⟨a, b, xs, ys, e1, e2, h.imp (fun z => ⟨s _ _ z.1, s _ _ z.2⟩) (fun z => ⟨s _ _ z.1, s _ _ z.2⟩), l, l2, fun i x y p q => Sm.up s (k i x y p q)⟩
def sp_same (n : Nat) : Sp := fun vs H Q _ => ∃ (F : Hp) (v u : V), vs = [v, u] ∧ Same F H ∧ Sm F n v u ∧ ∀ H', Gr mu0 F H F H' → Q (.bl true) H'
theorem okR_same (t : Tx K mg) : ∀ n, FnOk P w K mg base CX0 (n + 1) t.a_L_same t.fd_L_same ["_law_found", "_law_due"] (sp_same n) := by
  intro n
  induction n with
  | zero =>
    refine t.F_L_same.ok sc_L_same (fun vs H Q E h => ?_) (fun cdv A outer s H vs Q E hr h => ?_)
    · obtain ⟨F, v, u, rfl, _⟩ := h
      rfl
    · obtain ⟨F, v, u, rfl, sF, hv, q⟩ := h
      refine ⟨_, (pss_cons (ps_if (PW.pt (pw_or (pt_val (pe_callB (id := "isinstance") call_isi (by rfl) t.n_isinstance (by decide +kernel) (pa_cons (pv 1) (pa_cons (pe_bltn (v := .ty "tuple") (by rfl) t.n_tuple (by decide +kernel) rfl) pa_nil)))) (pw_or1 (pt_val (pe_callB (id := "isinstance") call_isi (by rfl) t.n_isinstance (by decide +kernel) (pa_cons (pv 1) (pa_cons (pe_bltn (v := .ty "list") (by rfl) t.n_list (by decide +kernel) rfl) pa_nil))))))) (pss_cons (ps_if (PW.pt (pw_or (pt_cmpR op_ne (pe_callB (id := "isinstance") call_isi (by rfl) t.n_isinstance (by decide +kernel) (pa_cons (pv 0) (pa_cons (pe_bltn (v := .ty "tuple") (by rfl) t.n_tuple (by decide +kernel) rfl) pa_nil))) (pe_callB (id := "isinstance") call_isi (by rfl) t.n_isinstance (by decide +kernel) (pa_cons (pv 1) (pa_cons (pe_bltn (v := .ty "tuple") (by rfl) t.n_tuple (by decide +kernel) rfl) pa_nil))) (nomark _)) (pw_or1 (pt_cmpR op_ne (pe_callB (id := "isinstance") call_isi (by rfl) t.n_isinstance (by decide +kernel) (pa_cons (pv 0) (pa_cons (pe_bltn (v := .ty "list") (by rfl) t.n_list (by decide +kernel) rfl) pa_nil))) (pe_callB (id := "isinstance") call_isi (by rfl) t.n_isinstance (by decide +kernel) (pa_cons (pv 1) (pa_cons (pe_bltn (v := .ty "list") (by rfl) t.n_list (by decide +kernel) rfl) pa_nil))) (nomark _))))) (pss_one (ps_ret pe_bl)) pss_nil)
      (pss_cons (ps_if (pt_cmpR op_ne (pe_callB (id := "len") call_lenQ (by rfl) t.n_len (by decide +kernel) (pa_cons (pv 0) pa_nil)) (pe_callB (id := "len") call_lenQ (by rfl) t.n_len (by decide +kernel) (pa_cons (pv 1) pa_nil)) (nomark _)) (pss_one (ps_ret pe_bl)) pss_nil)
      (pss_one ps_never))) pss_nil)
      (pss_cons (ps_if (PW.pt (pw_or (pt_val (pe_callB (id := "isinstance") call_isi (by rfl) t.n_isinstance (by decide +kernel) (pa_cons (pv 1) (pa_cons (pe_bltn (v := .ty "str") (by rfl) t.n_str (by decide +kernel) rfl) pa_nil)))) (pw_or1 (pt_cmpR op_isN (pv 1) pe_non (nomark _))))) (pss_one (ps_ret (pe_and (pe_cmpR (op_eqD hr.units) (pv 0) (pv 1) (nomark _)) (pe_one (pe_cmpR op_eq (pe_callB (id := "isinstance") call_isi (by rfl) t.n_isinstance (by decide +kernel) (pa_cons (pv 0) (pa_cons (pe_bltn (v := .ty "str") (by rfl) t.n_str (by decide +kernel) rfl) pa_nil))) (pe_callB (id := "isinstance") call_isi (by rfl) t.n_isinstance (by decide +kernel) (pa_cons (pv 1) (pa_cons (pe_bltn (v := .ty "str") (by rfl) t.n_str (by decide +kernel) rfl) pa_nil))) (nomark _)))))) pss_nil)
      (pss_one (ps_ret (pe_and (pe_callB (id := "isinstance") call_isi (by rfl) t.n_isinstance (by decide +kernel) (pa_cons (pv 0) (pa_cons (pe_bltn (v := .ty "int") (by rfl) t.n_int (by decide +kernel) rfl) pa_nil))) (pe_and (pe_not (pe_callB (id := "isinstance") call_isi (by rfl) t.n_isinstance (by decide +kernel) (pa_cons (pv 0) (pa_cons (pe_bltn (v := .ty "bool") (by rfl) t.n_bool (by decide +kernel) rfl) pa_nil)))) (pe_one (pe_cmpR (op_eqD hr.units) (pv 0) (pv 1) (nomark _))))))))), ?_⟩
      have g0 : Gr mu0 F H F H := Gr.refl sF
      obtain ⟨i, rfl, rfl⟩ := hv
      refine ⟨_, rfl, _, _, _, _, false, rfl, .ty "tuple", .base (.int _), kit_ty (by decide +kernel), _, rfl, ifF rfl ⟨_, rfl, _, _, _, _, false, rfl, .ty "list", .base (.int _), kit_ty (by decide +kernel), _, rfl, ifF rfl ?_⟩⟩
      refine ⟨_, rfl, _, _, _, _, false, rfl, .ty "str", .base (.int _), kit_ty (by decide +kernel), _, rfl, ifF rfl ⟨_, rfl, rfl, _, rfl, ifF rfl ?_⟩⟩
      refine ⟨_, rfl, _, _, _, _, true, rfl, .ty "int", .base (.int _), kt_int_int, _, rfl, ifT rfl ⟨_, rfl, _, _, _, _, false, rfl, .ty "bool", .base (.int _), kt_int_bool, _, rfl, _, rfl, ifT rfl ⟨_, rfl, _, rfl, ?_⟩⟩⟩
      refine eq_dat (a := i) (b := i) rfl rfl ?_
      rw [decide_eq_true rfl]
      exact q _ g0
  | succ n ih =>
    refine t.F_L_same.ok sc_L_same (fun vs H Q E h => ?_) (fun cdv A outer s H vs Q E hr h => ?_)
    · obtain ⟨F, v, u, rfl, _⟩ := h
      rfl
    · obtain ⟨F, v, u, rfl, sF, hv, q⟩ := h
      refine ⟨_, (pss_cons (ps_if (PW.pt (pw_or (pt_val (pe_callB (id := "isinstance") call_isi (by rfl) t.n_isinstance (by decide +kernel) (pa_cons (pv 1) (pa_cons (pe_bltn (v := .ty "tuple") (by rfl) t.n_tuple (by decide +kernel) rfl) pa_nil)))) (pw_or1 (pt_val (pe_callB (id := "isinstance") call_isi (by rfl) t.n_isinstance (by decide +kernel) (pa_cons (pv 1) (pa_cons (pe_bltn (v := .ty "list") (by rfl) t.n_list (by decide +kernel) rfl) pa_nil))))))) (pss_cons (ps_if (PW.pt (pw_or (pt_cmpR op_ne (pe_callB (id := "isinstance") call_isi (by rfl) t.n_isinstance (by decide +kernel) (pa_cons (pv 0) (pa_cons (pe_bltn (v := .ty "tuple") (by rfl) t.n_tuple (by decide +kernel) rfl) pa_nil))) (pe_callB (id := "isinstance") call_isi (by rfl) t.n_isinstance (by decide +kernel) (pa_cons (pv 1) (pa_cons (pe_bltn (v := .ty "tuple") (by rfl) t.n_tuple (by decide +kernel) rfl) pa_nil))) (nomark _)) (pw_or1 (pt_cmpR op_ne (pe_callB (id := "isinstance") call_isi (by rfl) t.n_isinstance (by decide +kernel) (pa_cons (pv 0) (pa_cons (pe_bltn (v := .ty "list") (by rfl) t.n_list (by decide +kernel) rfl) pa_nil))) (pe_callB (id := "isinstance") call_isi (by rfl) t.n_isinstance (by decide +kernel) (pa_cons (pv 1) (pa_cons (pe_bltn (v := .ty "list") (by rfl) t.n_list (by decide +kernel) rfl) pa_nil))) (nomark _))))) (pss_one (ps_ret pe_bl)) pss_nil)
      (pss_cons (ps_if (pt_cmpR op_ne (pe_callB (id := "len") call_lenQ (by rfl) t.n_len (by decide +kernel) (pa_cons (pv 0) pa_nil)) (pe_callB (id := "len") call_lenQ (by rfl) t.n_len (by decide +kernel) (pa_cons (pv 1) pa_nil)) (nomark _)) (pss_one (ps_ret pe_bl)) pss_nil)
      (pss_one (ps_ret (pe_cmpR op_eq (pe_callB (id := "len") call_lenQ (by rfl) t.n_len (by decide +kernel) (pa_cons (pe_lc (own := [("_law_k", 2)]) (g := gName 2) rfl sc_L_same.nd (pi_range1 (by rfl) t.n_range (pa_cons (pe_callB (id := "len") call_lenQ (by rfl) t.n_len (by decide +kernel) (pa_cons (pv 1) pa_nil)) pa_nil)) (blkOk_by (N := N_L_same) (sc := defScope s_L_same) (by decide +kernel)) (fun _ _ _ _ _ => (pg_name (i := 2) sc_L_same.nd rfl (by first | exact Or.inl rfl | exact Or.inr rfl))) (fun _ _ _ _ _ => (pts_one (pt_not (pt_val (pe_call ih (hr.mono (Nat.le_refl _)) (by rfl) t.m_L_same t.F_L_same.kp t.b_L_same .nil pass0 (pa_cons (pe_ix (ixK (K := K) (r := rIx) rfl ix_seq) (pv 0) (pv 2) (fun _ _ => rfl)) (pa_cons (pe_ix (ixK (K := K) (r := rIx) rfl ix_seq) (pv 1) (pv 2) (fun _ _ => rfl)) pa_nil))))))) (fun _ _ _ _ _ => (pv 2))) pa_nil)) pe_int (nomark _)))))) pss_nil)
      (pss_cons (ps_if (PW.pt (pw_or (pt_val (pe_callB (id := "isinstance") call_isi (by rfl) t.n_isinstance (by decide +kernel) (pa_cons (pv 1) (pa_cons (pe_bltn (v := .ty "str") (by rfl) t.n_str (by decide +kernel) rfl) pa_nil)))) (pw_or1 (pt_cmpR op_isN (pv 1) pe_non (nomark _))))) (pss_one (ps_ret (pe_and (pe_cmpR (op_eqD hr.units) (pv 0) (pv 1) (nomark _)) (pe_one (pe_cmpR op_eq (pe_callB (id := "isinstance") call_isi (by rfl) t.n_isinstance (by decide +kernel) (pa_cons (pv 0) (pa_cons (pe_bltn (v := .ty "str") (by rfl) t.n_str (by decide +kernel) rfl) pa_nil))) (pe_callB (id := "isinstance") call_isi (by rfl) t.n_isinstance (by decide +kernel) (pa_cons (pv 1) (pa_cons (pe_bltn (v := .ty "str") (by rfl) t.n_str (by decide +kernel) rfl) pa_nil))) (nomark _)))))) pss_nil)
      (pss_one (ps_ret (pe_and (pe_callB (id := "isinstance") call_isi (by rfl) t.n_isinstance (by decide +kernel) (pa_cons (pv 0) (pa_cons (pe_bltn (v := .ty "int") (by rfl) t.n_int (by decide +kernel) rfl) pa_nil))) (pe_and (pe_not (pe_callB (id := "isinstance") call_isi (by rfl) t.n_isinstance (by decide +kernel) (pa_cons (pv 0) (pa_cons (pe_bltn (v := .ty "bool") (by rfl) t.n_bool (by decide +kernel) rfl) pa_nil)))) (pe_one (pe_cmpR (op_eqD hr.units) (pv 0) (pv 1) (nomark _))))))))), ?_⟩
      have g0 : Gr mu0 F H F H := Gr.refl sF
      rcases hv with ⟨i, rfl, rfl⟩ | ⟨a, b, xs, ys, rfl, rfl, hab, hl, hl2, hk⟩
      · refine ⟨_, rfl, _, _, _, _, false, rfl, .ty "tuple", .base (.int _), kit_ty (by decide +kernel), _, rfl, ifF rfl ⟨_, rfl, _, _, _, _, false, rfl, .ty "list", .base (.int _), kit_ty (by decide +kernel), _, rfl, ifF rfl ?_⟩⟩
        refine ⟨_, rfl, _, _, _, _, false, rfl, .ty "str", .base (.int _), kit_ty (by decide +kernel), _, rfl, ifF rfl ⟨_, rfl, rfl, _, rfl, ifF rfl ?_⟩⟩
        refine ⟨_, rfl, _, _, _, _, true, rfl, .ty "int", .base (.int _), kt_int_int, _, rfl, ifT rfl ⟨_, rfl, _, _, _, _, false, rfl, .ty "bool", .base (.int _), kt_int_bool, _, rfl, _, rfl, ifT rfl ⟨_, rfl, _, rfl, ?_⟩⟩⟩
        refine eq_dat (a := i) (b := i) rfl rfl ?_
        rw [decide_eq_true rfl]
        exact q _ g0
      · rcases hab with ⟨ha, hb⟩ | ⟨ha, hb⟩
        · have h1 := sF _ _ ha
          have h2 := sF _ _ hb
          refine ⟨_, rfl, _, _, _, _, false, rfl, .ty "tuple", .base (.lst h2), kit_ty (by decide +kernel), _, rfl, ifF rfl ⟨_, rfl, _, _, _, _, true, rfl, .ty "list", .base (.lst h2), kt_list, _, rfl, ifT rfl ?_⟩⟩
          refine ⟨_, rfl, _, _, _, _, false, rfl, .ty "tuple", .base (.lst h1), kit_ty (by decide +kernel), _, rfl, _, _, _, _, false, rfl, .ty "tuple", .base (.lst h2), kit_ty (by decide +kernel), rfl, _, rfl, ifF rfl ?_⟩
          refine ⟨_, rfl, _, _, _, _, true, rfl, .ty "list", .base (.lst h1), kt_list, _, rfl, _, _, _, _, true, rfl, .ty "list", .base (.lst h2), kt_list, rfl, _, rfl, ifF rfl ?_⟩
          refine ⟨_, rfl, a, _, rfl, .inl (SqL.of h1), _, rfl, b, _, rfl, .inl (SqL.of h2), rfl, _, rfl, ifF (by rw [hl, decide_eq_true rfl]; rfl) ?_⟩
          refine ⟨_, rfl, b, _, rfl, .inl (SqL.of h2), _, rfl, by omega, by omega, fun D nD => lc_range (lo := 0) (n := ((ys.length : Int)).toNat) (fun j G => Gr mu0 F H F G ∧ G D = some (.lst [])) ⟨g0.own nD, upd_same⟩ ?_ ?_⟩
          · rintro j G hj ⟨g, hD⟩
            have j2 : j < ys.length := by omega
            have j1 : j < xs.length := by omega
            refine ⟨rfl, _, rfl, _, rfl, .inl ⟨a, _, _, _, rfl, rfl, SqL.of (g.fh _ _ ha), at_of (j := j) (by omega) (List.getElem?_eq_getElem j1), _, rfl, _, rfl, .inl ⟨b, _, _, _, rfl, rfl, SqL.of (g.fh _ _ hb), at_of (j := j) (by omega) (List.getElem?_eq_getElem j2), ?_⟩⟩⟩
            exact ⟨F, xs[j], ys[j], rfl, g.fh, hk j _ _ (List.getElem?_eq_getElem j1) (List.getElem?_eq_getElem j2), fun G' g' => ⟨_, rfl, ifF rfl ⟨g.trans g', g'.fr _ _ hD (fun z => z)⟩⟩⟩
          · rintro G ⟨g, hD⟩
            exact ⟨D, _, rfl, .inl (SqL.of hD), rfl, q _ g⟩
        · have h1 := sF _ _ ha
          have h2 := sF _ _ hb
          refine ⟨_, rfl, _, _, _, _, true, rfl, .ty "tuple", .base (.tup h2), kt_tup, _, rfl, ifT rfl ?_⟩
          refine ⟨_, rfl, _, _, _, _, true, rfl, .ty "tuple", .base (.tup h1), kt_tup, _, rfl, _, _, _, _, true, rfl, .ty "tuple", .base (.tup h2), kt_tup, rfl, _, rfl, ifF rfl ?_⟩
          refine ⟨_, rfl, _, _, _, _, false, rfl, .ty "list", .base (.tup h1), kit_ty (by decide +kernel), _, rfl, _, _, _, _, false, rfl, .ty "list", .base (.tup h2), kit_ty (by decide +kernel), rfl, _, rfl, ifF rfl ?_⟩
          refine ⟨_, rfl, a, _, rfl, .inr (SqT.of h1), _, rfl, b, _, rfl, .inr (SqT.of h2), rfl, _, rfl, ifF (by rw [hl, decide_eq_true rfl]; rfl) ?_⟩
          refine ⟨_, rfl, b, _, rfl, .inr (SqT.of h2), _, rfl, by omega, by omega, fun D nD => lc_range (lo := 0) (n := ((ys.length : Int)).toNat) (fun j G => Gr mu0 F H F G ∧ G D = some (.lst [])) ⟨g0.own nD, upd_same⟩ ?_ ?_⟩
          · rintro j G hj ⟨g, hD⟩
            have j2 : j < ys.length := by omega
            have j1 : j < xs.length := by omega
            refine ⟨rfl, _, rfl, _, rfl, .inr (.inl ⟨a, _, _, _, rfl, rfl, SqT.of (g.fh _ _ ha), at_of (j := j) (by omega) (List.getElem?_eq_getElem j1), _, rfl, _, rfl, .inr (.inl ⟨b, _, _, _, rfl, rfl, SqT.of (g.fh _ _ hb), at_of (j := j) (by omega) (List.getElem?_eq_getElem j2), ?_⟩)⟩)⟩
            exact ⟨F, xs[j], ys[j], rfl, g.fh, hk j _ _ (List.getElem?_eq_getElem j1) (List.getElem?_eq_getElem j2), fun G' g' => ⟨_, rfl, ifF rfl ⟨g.trans g', g'.fr _ _ hD (fun z => z)⟩⟩⟩
          · rintro G ⟨g, hD⟩
            exact ⟨D, _, rfl, .inl (SqL.of hD), rfl, q _ g⟩
def sp_L_same : Sp := sp_same 5
theorem ok_L_same (t : Tx K mg) : FnOk P w K mg base CX0 6 t.a_L_same t.fd_L_same ["_law_found", "_law_due"] sp_L_same := okR_same t 5
/-! ### read rightly -/
theorem setupL_few {x : Str} {s : Setup} (h : setupL x = some s) : s.c.length ≤ 40 := by
  unfold setupL at h
  match e : Txt.split x " ", h with
  | [], h => cases h
  | [_], h => cases h
  | w0 :: w1 :: r, h =>
    rw [setupW_cons] at h
    by_cases c : r.length ≤ 40
    case neg => rw [if_neg c] at h; cases h
    rw [if_pos c] at h
    cases e0 : rowL (TL.tl w0) with
    | none => rw [e0] at h; cases h
    | some a =>
      rcases allS_cases (r.map fun w => signL (TL.tl w)) with ⟨cs, ec⟩ | z
      case inr => rw [e0, allS_none z] at h; cases h
      cases e1 : placeL (TL.tl w1) with
      | none => rw [e0, allS_some ec, e1] at h; cases h
      | some i =>
        rw [e0, allS_some ec, e1] at h
        have h : (if risB cs = true then some (⟨a, i, cs⟩ : Setup) else none) = some s := h
        by_cases k : risB cs = true
        case neg => rw [if_neg k] at h; cases h
        rw [if_pos k] at h
        cases h
        have := congrArg List.length ec
        rw [List.length_map, List.length_map] at this
        show cs.length ≤ 40
        omega
theorem sm_pi {F : Hp} {x y : V} {c : PI} (h1 : Is F x c) (h2 : Is F y c) : Sm F 3 x y := by
  obtain ⟨a, u1, u2, rfl, ha, rfl, rfl⟩ := h1
  obtain ⟨b, w1, w2, rfl, hb, rfl, rfl⟩ := h2
  refine .inr ⟨a, b, _, _, rfl, rfl, .inr ⟨ha, hb⟩, rfl, by show 2 ≤ 1000; decide, fun k x y e1 e2 => ?_⟩
  match k, e1, e2 with
  | 0, e1, e2 => cases e1; cases e2; exact .inl ⟨_, rfl, rfl⟩
  | 1, e1, e2 => cases e1; cases e2; exact .inl ⟨_, rfl, rfl⟩
theorem sm_setup {F : Hp} {x y : V} {s : Setup} (h1 : Is F x s) (h2 : Is F y s) (hs : s.c.length ≤ 40) : Sm F 5 x y := by
  obtain ⟨a, u1, u2, u3, rfl, ha, rfl, rfl, l1, xs, rfl, hl1, al1⟩ := h1
  obtain ⟨b, w1, w2, w3, rfl, hb, rfl, rfl, l2, ys, rfl, hl2, al2⟩ := h2
  have n1 : xs.length = s.c.length := al1.1
  have n2 : ys.length = s.c.length := al2.1
  refine .inr ⟨a, b, _, _, rfl, rfl, .inr ⟨ha, hb⟩, rfl, by show 3 ≤ 1000; decide, fun k x y e1 e2 => ?_⟩
  match k, e1, e2 with
  | 0, e1, e2 => cases e1; cases e2; exact .inl ⟨_, rfl, rfl⟩
  | 1, e1, e2 => cases e1; cases e2; exact .inl ⟨_, rfl, rfl⟩
  | 2, e1, e2 =>
    cases e1; cases e2
    refine .inr ⟨l1, l2, xs, ys, rfl, rfl, .inl ⟨hl1, hl2⟩, by omega, by omega, fun k x y e1 e2 => ?_⟩
    obtain ⟨c, hc, z1⟩ := al1.get' e1
    obtain ⟨d, hd, z2⟩ := al2.get' e2
    rw [hc] at hd
    cases hd
    exact sm_pi z1 z2
def sp_L_right : Sp := fun vs H Q _ => ∃ (F : Hp) (x : Str), vs = [.str x] ∧ Same F H ∧ x.length ≤ 100000 ∧ ∀ F' H', Gr mu0 F H F' H' → Q (.bl true) H'
theorem ok_L_right (t : Tx K mg) : FnOk P w K mg base CX0 7 t.a_L_right t.fd_L_right ["_law_text"] sp_L_right := by
  refine t.F_L_right.ok sc_L_right (fun vs H Q E h => ?_) (fun cdv A outer s H vs Q E hr h => ?_)
  · obtain ⟨F, x, rfl, _⟩ := h
    rfl
  · obtain ⟨F, x, rfl, sF, hx, q⟩ := h
    refine ⟨_, (pss_cons (ps_set (i := 1) sc_L_right.nd rfl (by first | exact Or.inl rfl | exact Or.inr rfl) (pe_call (ok_L_setup_of t) (hr.mono (by decide)) (by rfl) t.m_L_setup_of t.F_L_setup_of.kp t.b_L_setup_of .nil pass0 (pa_cons (pv 0) pa_nil)))
      (pss_cons (ps_asg (pe_call (ok_L_read t) (hr.mono (by decide)) (by rfl) t.m_L_read t.F_L_read.kp t.b_L_read .nil pass0 (pa_cons (pv 0) pa_nil)) (pg_unl rfl (pgs_cons (pg_name (i := 2) sc_L_right.nd rfl (by first | exact Or.inl rfl | exact Or.inr rfl)) (pgs_cons (pg_name (i := 3) sc_L_right.nd rfl (by first | exact Or.inl rfl | exact Or.inr rfl)) pgs_nil))))
      (pss_cons (ps_if (pt_cmpR op_isN (pv 1) pe_non (nomark _)) (pss_one (ps_ret (pe_and (pe_cmpR op_notN (pv 3) pe_non (nomark _)) (pe_one (pe_cmpR op_eq (pe_call (ok_L_word t) (hr.mono (by decide)) (by rfl) t.m_L_word t.F_L_word.kp t.b_L_word .nil pass0 (pa_cons (pv 3) pa_nil)) pe_str (nomark _)))))) pss_nil)
      (pss_one (ps_ret (pe_and (pe_cmpR op_isN (pv 3) pe_non (nomark _)) (pe_one (pe_call (ok_L_same t) (hr.mono (by decide)) (by rfl) t.m_L_same t.F_L_same.kp t.b_L_same .nil pass0 (pa_cons (pv 2) (pa_cons (pv 1) pa_nil)))))))))), ?_⟩
    refine ⟨_, rfl, F, x, rfl, sF, by omega, fun F1 H1 v g1 hv => ?_⟩
    refine ⟨_, rfl, F1, x, rfl, g1.fh, hx, fun s eS F2 H2 w u g2 hw hu => ?_, fun eN H2 a u g2 ha hu => ?_⟩
    case refine_2 =>
      rw [eN] at hv
      obtain rfl : v = .non := hv
      refine ⟨u, _, rfl, SqL.of hu, rfl, _, _, rfl, _, _, rfl, rfl, ?_⟩
      refine ⟨_, rfl, rfl, _, rfl, ifT rfl ?_⟩
      refine ⟨_, rfl, rfl, _, rfl, ifT rfl ?_⟩
      refine ⟨_, rfl, F1, a, rfl, g2.fh, ha, fun H3 g3 => ⟨rfl, ?_⟩⟩
      rw [decide_eq_true rfl]
      exact q _ _ (g1.trans (g2.trans g3))
    rw [eS] at hv
    have hv : Is F1 v s := hv
    have hv2 : Is F2 v s := hv.up g2.ff
    have n40 := setupL_few eS
    refine ⟨u, _, rfl, SqL.of hu, rfl, _, _, rfl, _, _, rfl, rfl, ?_⟩
    obtain ⟨b, w1, w2, w3, rfl, hb, _⟩ := id hv2
    refine ⟨_, rfl, rfl, _, rfl, ifF rfl ?_⟩
    refine ⟨_, rfl, rfl, _, rfl, ifT rfl ⟨_, rfl, _, rfl, F2, w, .ref b, rfl, g2.fh, sm_setup hw hv2 n40, fun H3 g3 => ?_⟩⟩
    exact q _ _ ((g1.trans g2).trans g3)
theorem cut_take {xs : List V} {j : Nat} : cutV xs none (some (j : Int)) = xs.take j := by
  unfold cutV
  have e1 : HT.sIx xs.length 0 none = 0 := rfl
  have e2 : HT.sIx xs.length xs.length (some (j : Int)) = min j xs.length := by
    simp only [HT.sIx]
    rw [if_neg (by omega), Int.toNat_natCast]
  rw [e1, e2, List.drop_zero, Nat.sub_zero]
  rcases Nat.le_total j xs.length with h | h
  · rw [Nat.min_eq_left h]
  · rw [Nat.min_eq_right h, List.take_length, List.take_of_length_le h]
theorem cut_drop {xs : List V} {j : Nat} : cutV xs (some (j : Int)) none = xs.drop j := by
  unfold cutV
  have e2 : HT.sIx xs.length xs.length none = xs.length := rfl
  have e1 : HT.sIx xs.length 0 (some (j : Int)) = min j xs.length := by
    simp only [HT.sIx]
    rw [if_neg (by omega), Int.toNat_natCast]
  rw [e1, e2]
  rcases Nat.le_total j xs.length with h | h
  · rw [Nat.min_eq_left h, ← List.length_drop, List.take_length]
  · rw [Nat.min_eq_right h, Nat.sub_self, List.take_zero, List.drop_eq_nil_iff.mpr h]
theorem cut_mid {xs : List V} {f l : Nat} (h1 : f ≤ l) (h2 : l ≤ xs.length) : cutV xs (some (f : Int)) (some (l : Int)) = (xs.drop f).take (l - f) := by
  unfold cutV
  have e1 : HT.sIx xs.length 0 (some (f : Int)) = f := by
    simp only [HT.sIx]
    rw [if_neg (by omega), Int.toNat_natCast]; omega
  have e2 : HT.sIx xs.length xs.length (some (l : Int)) = l := by
    simp only [HT.sIx]
    rw [if_neg (by omega), Int.toNat_natCast]; omega
  rw [e1, e2]
/-! ### bent texts -/
def tot (l : List Str) : Nat := (l.map (·.length)).sum + l.length
theorem tot_app (a b : List Str) : tot (a ++ b) = tot a + tot b := by
  unfold tot
  rw [List.map_append, List.sum_append, List.length_append]; omega
theorem tot_cut (l : List Str) (n : Nat) : tot (l.take n) + tot (l.drop n) = tot l := by
  rw [← tot_app, List.take_append_drop]
theorem tot_mem {l : List Str} {x : Str} (h : x ∈ l) : x.length + 1 ≤ tot l := by
  obtain ⟨a, b, rfl⟩ := List.append_of_mem h
  rw [tot_app]
  show _ ≤ tot a + tot (x :: b)
  rw [show x :: b = [x] ++ b from rfl, tot_app]
  have : tot [x] = x.length + 1 := by unfold tot; simp
  omega
theorem tot_set : ∀ (l : List Str) (i : Nat) (x : Str), tot (l.set i x) ≤ tot l + x.length
  | [], i, x => by show tot [] ≤ _; unfold tot; simp
  | y :: l, 0, x => by
    show tot (x :: l) ≤ tot (y :: l) + x.length
    rw [show x :: l = [x] ++ l from rfl, show y :: l = [y] ++ l from rfl, tot_app, tot_app]
    have h1 : tot [x] = x.length + 1 := by unfold tot; simp
    have h2 : tot [y] = y.length + 1 := by unfold tot; simp
    omega
  | y :: l, i + 1, x => by
    have := tot_set l i x
    show tot (y :: l.set i x) ≤ tot (y :: l) + x.length
    rw [show y :: l.set i x = [y] ++ l.set i x from rfl, show y :: l = [y] ++ l from rfl, tot_app, tot_app]
    omega
theorem join_tot : ∀ l : List Str, (Str.join " " l).length ≤ tot l
  | [] => by show (Str.join " " []).length ≤ 0; decide +kernel
  | [a] => by
    have h1 : tot [a] = a.length + 1 := by unfold tot; simp
    rw [h1]
    show a.length ≤ _
    omega
  | a :: b :: r => by
    have := join_tot (b :: r)
    have e : (Str.join " " (a :: b :: r)).length = a.length + 1 + (Str.join " " (b :: r)).length := by
      show (a ++ " " ++ Str.join " " (b :: r)).length = _
      rw [str_len_app, str_len_app, blank_len]
    rw [e, show a :: b :: r = [a] ++ (b :: r) from rfl, tot_app]
    have h1 : tot [a] = a.length + 1 := by unfold tot; simp
    omega
theorem tot_join : ∀ l : List Str, l ≠ [] → tot l = (Str.join " " l).length + 1
  | [], h => absurd rfl h
  | [a], _ => by
    have h1 : tot [a] = a.length + 1 := by unfold tot; simp
    rw [h1]; rfl
  | a :: b :: r, _ => by
    have k := tot_join (b :: r) (by simp)
    have e : (Str.join " " (a :: b :: r)).length = a.length + 1 + (Str.join " " (b :: r)).length := by
      show (a ++ " " ++ Str.join " " (b :: r)).length = _
      rw [str_len_app, str_len_app, blank_len]
    rw [e, show a :: b :: r = [a] ++ (b :: r) from rfl, tot_app, k]
    have h1 : tot [a] = a.length + 1 := by unfold tot; simp
    omega
theorem tot_split (x : Str) : tot (Txt.split x " ") ≤ x.length + 1 := by
  by_cases h : Txt.split x " " = []
  · rw [h]; show 0 ≤ _; omega
  · rw [tot_join _ h, PySem.StrLaws.join_split]; exact Nat.le_refl _
theorem spl_ne {S : List Nat} : ∀ (l : List Nat) (k : Nat) (acc : List Nat), TL.spl S k acc l ≠ []
  | [], k, acc => by rw [TL.spl_nil]; simp
  | c :: r, 0, acc => by
    rw [TL.spl]
    split
    · simp
    · exact spl_ne r 0 _
  | c :: r, k + 1, acc => by
    rw [TL.spl]
    exact spl_ne r k acc
theorem split_ne (x : Str) : Txt.split x " " ≠ [] := fun h => by
  have z := TL.split_spl x " " (by decide +kernel) (TL.kind_ok (by decide +kernel))
  rw [h] at z
  exact spl_ne _ _ _ z.symm
theorem tl_join12 (l : List Str) : (Txt.join " " l).length ≤ tot l := by
  rw [TL.join_eq]; exact join_tot l
theorem cut_le (x : Str) (a b : Option Int) : (cutS x a b).length ≤ x.length := cutS_length x a b
theorem one_len (c : Nat) : (⟨#[c]⟩ : Str).length = 1 := rfl
theorem iN {n k : Nat} (h : k < n) : ixN n (k : Int) = some k := by
  unfold ixN
  rw [if_pos (by omega), if_pos (by omega), Int.toNat_natCast]
def sp_L_bent_text : Sp := fun vs H Q _ => ∃ (F : Hp) (p : Addr) (a b : Int) (x near : Str), vs = [.ref p, .str x, .str near] ∧ Same F H ∧ F p = none ∧ H p = some (PurseO a b) ∧ 0 ≤ a ∧ 0 ≤ b ∧ x.length ≤ 40000 ∧ 1 ≤ near.length ∧ near.length ≤ 100 ∧
  ∀ (H' : Hp) (y : Str) (a' b' : Int), Gr (muP p) F H F H' → H' p = some (PurseO a' b') → 0 ≤ a' → 0 ≤ b' → y.length ≤ 4 * x.length + 4 → Q (.str y) H'
theorem ok_L_bent_text (t : Tx K mg) : FnOk P w K mg base CX0 2 t.a_L_bent_text t.fd_L_bent_text ["_law_purse_here", "_law_text", "_law_near"] sp_L_bent_text := by
  refine t.F_L_bent_text.ok sc_L_bent_text (fun vs H Q E h => ?_) (fun cdv A outer s H vs Q E hr h => ?_)
  · obtain ⟨F, p, a, b, x, near, rfl, _⟩ := h
    rfl
  · obtain ⟨F, p, a, b, x, near, rfl, sF, fp, hp, ha, hb, hx, n1, n100, q⟩ := h
    refine ⟨_, (pss_cons (ps_set (i := 3) sc_L_bent_text.nd rfl (by first | exact Or.inl rfl | exact Or.inr rfl) pe_str)
      (pss_cons (ps_set (i := 3) sc_L_bent_text.nd rfl (by first | exact Or.inl rfl | exact Or.inr rfl) (pe_op op_add_str (pv 3) pe_str))
      (pss_cons (ps_set (i := 4) sc_L_bent_text.nd rfl (by first | exact Or.inl rfl | exact Or.inr rfl) (pe_ix ix_list (pe_lst (pa_cons (pv 3) (pa_cons (pv 2) pa_nil))) (pe_call (ok_L_draw t) (hr.mono (by decide)) (by rfl) t.m_L_draw t.F_L_draw.kp t.b_L_draw .nil pass0 (pa_cons (pv 0) (pa_cons pe_int pa_nil))) (fun _ _ => rfl)))
      (pss_cons (ps_set (i := 4) sc_L_bent_text.nd rfl (by first | exact Or.inl rfl | exact Or.inr rfl) (pe_ix ix_str (pv 4) (pe_call (ok_L_draw t) (hr.mono (by decide)) (by rfl) t.m_L_draw t.F_L_draw.kp t.b_L_draw .nil pass0 (pa_cons (pv 0) (pa_cons (pe_callB (id := "len") call_len_str (by rfl) t.n_len (by decide +kernel) (pa_cons (pv 4) pa_nil)) pa_nil))) (fun _ _ => rfl)))
      (pss_cons (ps_set (i := 5) sc_L_bent_text.nd rfl (by first | exact Or.inl rfl | exact Or.inr rfl) (pe_call (ok_L_draw t) (hr.mono (by decide)) (by rfl) t.m_L_draw t.F_L_draw.kp t.b_L_draw .nil pass0 (pa_cons (pv 0) (pa_cons (pe_op op_add (pe_callB (id := "len") call_len_str (by rfl) t.n_len (by decide +kernel) (pa_cons (pv 1) pa_nil)) pe_int) pa_nil))))
      (pss_cons (ps_set (i := 6) sc_L_bent_text.nd rfl (by first | exact Or.inl rfl | exact Or.inr rfl) (pe_call (ok_L_draw t) (hr.mono (by decide)) (by rfl) t.m_L_draw t.F_L_draw.kp t.b_L_draw .nil pass0 (pa_cons (pv 0) (pa_cons pe_int pa_nil))))
      (pss_cons (ps_if (pt_cmpR op_eq (pv 6) pe_int (nomark _)) (pss_one (ps_ret (pe_op op_add_str (pe_op op_add_str (pe_slice sl_str (pv 1) po_none (po_some (pv 5))) (pv 4)) (pe_slice sl_str (pv 1) (po_some (pv 5)) po_none)))) pss_nil)
      (pss_cons (ps_if (pt_cmpR op_eq (pv 6) pe_int (nomark _)) (pss_one (ps_ret (pe_op op_add_str (pe_slice sl_str (pv 1) po_none (po_some (pv 5))) (pe_slice sl_str (pv 1) (po_some (pe_op op_add (pv 5) pe_int)) po_none)))) pss_nil)
      (pss_cons (ps_if (pt_cmpR op_lt (pv 6) pe_int (nomark _)) (pss_one (ps_ret (pe_op op_add_str (pe_op op_add_str (pe_slice sl_str (pv 1) po_none (po_some (pv 5))) (pv 4)) (pe_slice sl_str (pv 1) (po_some (pe_op op_add (pv 5) pe_int)) po_none)))) pss_nil)
      (pss_cons (ps_if (pt_cmpR op_eq (pv 6) pe_int (nomark _)) (pss_cons (ps_set (i := 7) sc_L_bent_text.nd rfl (by first | exact Or.inl rfl | exact Or.inr rfl) (pe_op op_add_str (pe_slice sl_str (pv 1) (po_some (pe_op op_add (pv 5) pe_int)) (po_some (pe_op op_add (pv 5) pe_int))) (pe_slice sl_str (pv 1) (po_some (pv 5)) (po_some (pe_op op_add (pv 5) pe_int)))))
      (pss_one (ps_ret (pe_op op_add_str (pe_op op_add_str (pe_slice sl_str (pv 1) po_none (po_some (pv 5))) (pv 7)) (pe_slice sl_str (pv 1) (po_some (pe_op op_add (pv 5) pe_int)) po_none))))) pss_nil)
      (pss_cons (ps_if (pt_cmpR op_eq (pv 6) pe_int (nomark _)) (pss_one (ps_ret (pe_slice sl_str (pv 1) po_none (po_some (pv 5))))) pss_nil)
      (pss_cons (ps_set (i := 8) sc_L_bent_text.nd rfl (by first | exact Or.inl rfl | exact Or.inr rfl) (pe_split (pv 1) pe_str))
      (pss_cons (ps_set (i := 9) sc_L_bent_text.nd rfl (by first | exact Or.inl rfl | exact Or.inr rfl) (pe_call (ok_L_draw t) (hr.mono (by decide)) (by rfl) t.m_L_draw t.F_L_draw.kp t.b_L_draw .nil pass0 (pa_cons (pv 0) (pa_cons (pe_callB (id := "len") call_lenQ (by rfl) t.n_len (by decide +kernel) (pa_cons (pv 8) pa_nil)) pa_nil))))
      (pss_cons (ps_set (i := 10) sc_L_bent_text.nd rfl (by first | exact Or.inl rfl | exact Or.inr rfl) (pe_call (ok_L_draw t) (hr.mono (by decide)) (by rfl) t.m_L_draw t.F_L_draw.kp t.b_L_draw .nil pass0 (pa_cons (pv 0) (pa_cons (pe_callB (id := "len") call_lenQ (by rfl) t.n_len (by decide +kernel) (pa_cons (pv 8) pa_nil)) pa_nil))))
      (pss_cons (ps_if (pt_cmpR op_eq (pv 6) pe_int (nomark _)) (pss_one (ps_set (i := 8) sc_L_bent_text.nd rfl (by first | exact Or.inl rfl | exact Or.inr rfl) (pe_op op_cat (pe_slice sl_list (pv 8) po_none (po_some (pv 9))) (pe_slice sl_list (pv 8) (po_some (pe_op op_add (pv 9) pe_int)) po_none)))) (pss_one (ps_if (pt_cmpR op_eq (pv 6) pe_int (nomark _)) (pss_one (ps_set (i := 8) sc_L_bent_text.nd rfl (by first | exact Or.inl rfl | exact Or.inr rfl) (pe_op op_cat (pe_op op_cat (pe_slice sl_list (pv 8) po_none (po_some (pv 9))) (pe_slice sl_list (pv 8) (po_some (pv 10)) (po_some (pe_op op_add (pv 10) pe_int)))) (pe_slice sl_list (pv 8) (po_some (pv 9)) po_none)))) (pss_one (ps_asg (pe_tup (pa_cons (pe_ix ix_list (pv 8) (pv 10) (fun _ _ => rfl)) (pa_cons (pe_ix ix_list (pv 8) (pv 9) (fun _ _ => rfl)) pa_nil))) (pg_tup rfl (pgs_cons (pg_sub (pv 8) (pv 9) set_list) (pgs_cons (pg_sub (pv 8) (pv 10) set_list) pgs_nil))))))))
      (pss_one (ps_ret (pe_join pe_str (pv 8))))))))))))))))))), ?_⟩
    have g0 : Gr (muP p) F H F H := Gr.refl sF
    refine ⟨_, rfl, _, _, rfl, rfl, by decide +kernel, ?_⟩
    dsimp only
    generalize hsg : (Str.ofString _ ++ Str.ofString _ : Str) = sg
    have ls : 1 ≤ sg.length ∧ sg.length ≤ 100 := by rw [← hsg]; decide +kernel
    clear hsg
    refine ⟨_, rfl, _, rfl, two_le, fun l nl => ?_⟩
    have g1 := g0.own (o := .lst [.str sg, .str near]) nl
    have hp1 := ln (u := .lst [.str sg, .str near]) nl hp
    have hl1 : (upd H l (.lst [.str sg, .str near])) l = some (.lst [.str sg, .str near]) := upd_same
    have pl : l ≠ p := (ne_of_none hp nl).symm
    generalize upd H l (.lst [.str sg, .str near]) = H1 at g1 hp1 hl1 ⊢
    refine ⟨_, rfl, p, a, b, 2, rfl, hp1, ha, hb, by decide, by decide, fun d a1 b1 d0 d1 ha1 hb1 => ?_⟩
    have g2 := g1.set (o := PurseO a1 b1) fp (.inr rfl)
    have hp2 : (upd H1 p (PurseO a1 b1)) p = some (PurseO a1 b1) := upd_same
    have hl2 := (upd_ne (o := PurseO a1 b1) pl).trans hl1
    generalize upd H1 p (PurseO a1 b1) = H2 at g2 hp2 hl2 ⊢
    obtain ⟨sn, hsn, n0, n9⟩ : ∃ sn : Str, atI [V.str sg, V.str near] d = some (.str sn) ∧ 1 ≤ sn.length ∧ sn.length ≤ 100 := by
      have h : d = 0 ∨ d = 1 := by omega
      rcases h with rfl | rfl
      · exact ⟨sg, rfl, ls.1, ls.2⟩
      · exact ⟨near, rfl, n1, n100⟩
    refine ⟨l, _, _, _, rfl, rfl, SqL.of hl2, hsn, ?_⟩
    refine ⟨_, rfl, _, rfl, _, rfl, _, rfl, le_size (n := sn.length) (by omega), p, a1, b1, (sn.length : Int), rfl, hp2, ha1, hb1, by omega, by omega, fun e a2 b2 e0 e1 ha2 hb2 => ?_⟩
    have g3 := g2.set (o := PurseO a2 b2) fp (.inr rfl)
    have hp3 : (upd H2 p (PurseO a2 b2)) p = some (PurseO a2 b2) := upd_same
    generalize upd H2 p (PurseO a2 b2) = H3 at g3 hp3 ⊢
    obtain ⟨c, hc⟩ : ∃ c, atI sn.cps.toList e = some c := by
      have hk : e.toNat < sn.cps.toList.length := by
        show _ < _
        rw [Array.length_toList]
        have : (sn.cps.size : Int) = (sn.length : Int) := rfl
        omega
      have ee : (e.toNat : Int) = e := Int.toNat_of_nonneg e0
      have z := atI_nat (j := e.toNat) (List.getElem?_eq_getElem hk)
      rw [ee] at z
      exact ⟨_, z⟩
    refine ⟨_, _, c, rfl, rfl, le_size (n := sn.length) (by omega), hc, ?_⟩
    refine ⟨_, rfl, _, rfl, _, rfl, le_size (n := x.length) (by omega), _, _, rfl, rfl, p, a2, b2, (x.length : Int) + 1, rfl, hp3, ha2, hb2, by omega, by omega, fun at_ a3 b3 f0 f1 ha3 hb3 => ?_⟩
    have g4 := g3.set (o := PurseO a3 b3) fp (.inr rfl)
    have hp4 : (upd H3 p (PurseO a3 b3)) p = some (PurseO a3 b3) := upd_same
    generalize upd H3 p (PurseO a3 b3) = H4 at g4 hp4 ⊢
    refine ⟨_, rfl, p, a3, b3, 9, rfl, hp4, ha3, hb3, by decide, by decide, fun kd a4 b4 k0 k1 ha4 hb4 => ?_⟩
    have g5 := g4.set (o := PurseO a4 b4) fp (.inr rfl)
    have hp5 : (upd H4 p (PurseO a4 b4)) p = some (PurseO a4 b4) := upd_same
    generalize upd H4 p (PurseO a4 b4) = H5 at g5 hp5 ⊢
    have lx : ∀ {a b : Option Int}, (cutS x a b).length ≤ x.length := fun {a b} => cut_le x a b
    have zx : ∀ {n : Nat}, n ≤ 900000 → n ≤ sizeLine := fun h => le_size (by omega)
    have l1 : (⟨#[c]⟩ : Str).length = 1 := rfl
    have c1 := cut_le x none (some at_)
    have c2 := cut_le x (some at_) none
    have c3 := cut_le x (some (at_ + 1)) none
    have c4 := cut_le x (some (at_ + 1)) (some (at_ + 2))
    have c5 := cut_le x (some at_) (some (at_ + 1))
    have c6 := cut_le x (some (at_ + 2)) none
    refine ⟨_, rfl, rfl, _, rfl, ite2 (fun _ => ?_) (fun _ => ?_)⟩
    · refine ⟨_, rfl, _, rfl, _, rfl, _, rfl, zx (n := x.length) (by omega), _, rfl, _, _, rfl, rfl, zx (n := _ + _) (by rw [l1]; omega), _, rfl, _, rfl, _, rfl, _, rfl, zx (n := x.length) (by omega), _, _, rfl, rfl, zx (n := _ + _) (by rw [str_len_app, l1]; omega), ?_⟩
      exact q _ _ a4 b4 g5 hp5 ha4 hb4 (by rw [str_len_app, str_len_app, l1]; omega)
    refine ⟨_, rfl, rfl, _, rfl, ite2 (fun _ => ?_) (fun _ => ?_)⟩
    · refine ⟨_, rfl, _, rfl, _, rfl, _, rfl, zx (n := x.length) (by omega), _, rfl, _, rfl, _, _, rfl, rfl, _, rfl, _, rfl, zx (n := x.length) (by omega), _, _, rfl, rfl, zx (n := _ + _) (by omega), ?_⟩
      exact q _ _ a4 b4 g5 hp5 ha4 hb4 (by rw [str_len_app]; omega)
    refine ⟨_, rfl, _, _, rfl, rfl, _, rfl, ite2 (fun _ => ?_) (fun _ => ?_)⟩
    · refine ⟨_, rfl, _, rfl, _, rfl, _, rfl, zx (n := x.length) (by omega), _, rfl, _, _, rfl, rfl, zx (n := _ + _) (by rw [l1]; omega), _, rfl, _, rfl, _, _, rfl, rfl, _, rfl, _, rfl, zx (n := x.length) (by omega), _, _, rfl, rfl, zx (n := _ + _) (by rw [str_len_app, l1]; omega), ?_⟩
      exact q _ _ a4 b4 g5 hp5 ha4 hb4 (by rw [str_len_app, str_len_app, l1]; omega)
    refine ⟨_, rfl, rfl, _, rfl, ite2 (fun _ => ?_) (fun _ => ?_)⟩
    · refine ⟨_, rfl, _, rfl, _, _, rfl, rfl, _, rfl, _, rfl, _, _, rfl, rfl, _, rfl, _, rfl, zx (n := x.length) (by omega), _, rfl, _, rfl, _, rfl, _, rfl, _, _, rfl, rfl, _, rfl, _, rfl, zx (n := x.length) (by omega), _, _, rfl, rfl, zx (n := _ + _) (by omega), ?_⟩
      refine ⟨_, rfl, _, rfl, _, rfl, _, rfl, zx (n := x.length) (by omega), _, rfl, _, _, rfl, rfl, zx (n := _ + _) (by rw [str_len_app]; omega), _, rfl, _, rfl, _, _, rfl, rfl, _, rfl, _, rfl, zx (n := x.length) (by omega), _, _, rfl, rfl, zx (n := _ + _) (by rw [str_len_app, str_len_app]; omega), ?_⟩
      exact q _ _ a4 b4 g5 hp5 ha4 hb4 (by rw [str_len_app, str_len_app, str_len_app]; omega)
    refine ⟨_, rfl, rfl, _, rfl, ite2 (fun _ => ?_) (fun _ => ?_)⟩
    · refine ⟨_, rfl, _, rfl, _, rfl, _, rfl, zx (n := x.length) (by omega), ?_⟩
      exact q _ _ a4 b4 g5 hp5 ha4 hb4 (by omega)
    -- words
    have ls2 := PyProof.Rows.split_le x " "
    have ts := tot_split x
    have ne : 1 ≤ (Txt.split x " ").length := by
      exact List.length_pos_iff.mpr (split_ne x)
    refine ⟨_, rfl, ⟨_, rfl⟩, _, _, rfl, rfl, by decide +kernel, zx (n := x.length + 2) (by omega), fun W nW => ?_⟩
    generalize Txt.split x " " = ws at ls2 ts ne nW ⊢
    have lw : (ws.map V.str).length = ws.length := List.length_map _
    have g6 := g5.own (o := .lst (ws.map V.str)) nW
    have hp6 := ln (u := .lst (ws.map V.str)) nW hp5
    have hW : (upd H5 W (.lst (ws.map V.str))) W = some (.lst (ws.map V.str)) := upd_same
    have pW : W ≠ p := (ne_of_none hp5 nW).symm
    generalize upd H5 W (.lst (ws.map V.str)) = H6 at g6 hp6 hW ⊢
    refine ⟨_, rfl, _, rfl, W, _, rfl, .inl (SqL.of hW), p, a4, b4, ((ws.map V.str).length : Int), rfl, hp6, ha4, hb4, by omega, by omega, fun sp a5 b5 s0 s1 ha5 hb5 => ?_⟩
    have g7 := g6.set (o := PurseO a5 b5) fp (.inr rfl)
    have hp7 : (upd H6 p (PurseO a5 b5)) p = some (PurseO a5 b5) := upd_same
    have hW7 := (upd_ne (o := PurseO a5 b5) pW).trans hW
    generalize upd H6 p (PurseO a5 b5) = H7 at g7 hp7 hW7 ⊢
    refine ⟨_, rfl, _, rfl, W, _, rfl, .inl (SqL.of hW7), p, a5, b5, ((ws.map V.str).length : Int), rfl, hp7, ha5, hb5, by omega, by omega, fun fr a6 b6 r0 r1 ha6 hb6 => ?_⟩
    have g8 := g7.set (o := PurseO a6 b6) fp (.inr rfl)
    have hp8 : (upd H7 p (PurseO a6 b6)) p = some (PurseO a6 b6) := upd_same
    have hW8 := (upd_ne (o := PurseO a6 b6) pW).trans hW7
    generalize upd H7 p (PurseO a6 b6) = H8 at g8 hp8 hW8 ⊢
    obtain ⟨i, rfl⟩ := Int.eq_ofNat_of_zero_le s0
    obtain ⟨j, rfl⟩ := Int.eq_ofNat_of_zero_le r0
    have i1 : i < ws.length := by omega
    have j1 : j < ws.length := by omega
    have bl1 : (" " : Str).length = 1 := blank_len
    refine ⟨_, rfl, rfl, _, rfl, ite2 (fun _ => ?_) (fun _ => ?_)⟩
    · refine ⟨_, rfl, _, rfl, _, rfl, W, _, rfl, SqL.of hW8, fun S1 m1 => ?_⟩
      rw [cut_take]
      refine ⟨_, rfl, _, rfl, _, _, rfl, rfl, _, rfl, W, _, rfl, SqL.of (ln m1 hW8), fun S2 m2 => ?_⟩
      dsimp only
      rw [show ((i : Int) + 1) = ((i + 1 : Nat) : Int) from rfl, cut_drop]
      refine ⟨S1, S2, _, _, rfl, rfl, ln m2 upd_same, upd_same, by rw [List.length_take, List.length_drop]; exact zx (by omega), fun S3 m3 => ?_⟩
      have e : (ws.map V.str).take i ++ (ws.map V.str).drop (i + 1) = (ws.take i ++ ws.drop (i + 1)).map V.str := by rw [List.map_append, List.map_take, List.map_drop]
      rw [e]
      have t1 := tot_cut ws i
      have t2 := tot_cut (ws.drop i) 1
      rw [List.drop_drop] at t2
      have t3 := tot_app (ws.take i) (ws.drop (i + 1))
      have t4 := tl_join12 (ws.take i ++ ws.drop (i + 1))
      refine ⟨⟨_, rfl⟩, _, rfl, _, S3, ws.take i ++ ws.drop (i + 1), rfl, rfl, .inl (SqL.of upd_same), ?_, ?_⟩
      · rw [bl1, Nat.mul_one]
        show tot _ ≤ _
        omega
      · exact q _ _ a6 b6 (((g8.own m1).own m2).own m3) (ln m3 (ln m2 (ln m1 hp8))) ha6 hb6 (by omega)
    refine ⟨_, rfl, rfl, _, rfl, ite2 (fun _ => ?_) (fun _ => ?_)⟩
    · refine ⟨_, rfl, _, rfl, _, rfl, W, _, rfl, SqL.of hW8, fun S1 m1 => ?_⟩
      rw [cut_take]
      refine ⟨_, rfl, _, rfl, _, rfl, _, rfl, _, _, rfl, rfl, _, rfl, W, _, rfl, SqL.of (ln m1 hW8), fun S2 m2 => ?_⟩
      dsimp only
      rw [show ((j : Int) + 1) = ((j + 1 : Nat) : Int) from rfl, cut_mid (by omega) (by omega), show j + 1 - j = 1 by omega]
      refine ⟨S1, S2, _, _, rfl, rfl, ln m2 upd_same, upd_same, by rw [List.length_take, List.length_take]; exact zx (by omega), fun S3 m3 => ?_⟩
      refine ⟨_, rfl, _, rfl, _, rfl, W, _, rfl, SqL.of (ln m3 (ln m2 (ln m1 hW8))), fun S4 m4 => ?_⟩
      rw [cut_drop]
      refine ⟨S3, S4, _, _, rfl, rfl, ln m4 upd_same, upd_same, by simp only [List.length_append, List.length_take, List.length_drop]; exact zx (by omega), fun S5 m5 => ?_⟩
      have e : (ws.map V.str).take i ++ ((ws.map V.str).drop j).take 1 ++ (ws.map V.str).drop i = (ws.take i ++ (ws.drop j).take 1 ++ ws.drop i).map V.str := by rw [List.map_append, List.map_append, List.map_take, List.map_take, List.map_drop, List.map_drop]
      rw [e]
      have t1 := tot_cut ws i
      have t2 := tot_cut (ws.drop j) 1
      have t3 := tot_cut ws j
      have t4 := tot_app (ws.take i ++ (ws.drop j).take 1) (ws.drop i)
      have t5 := tot_app (ws.take i) ((ws.drop j).take 1)
      have t6 := tl_join12 (ws.take i ++ (ws.drop j).take 1 ++ ws.drop i)
      refine ⟨⟨_, rfl⟩, _, rfl, _, S5, ws.take i ++ (ws.drop j).take 1 ++ ws.drop i, rfl, rfl, .inl (SqL.of upd_same), ?_, ?_⟩
      · rw [bl1, Nat.mul_one]
        show tot _ ≤ _
        omega
      · exact q _ _ a6 b6 (((((g8.own m1).own m2).own m3).own m4).own m5) (ln m5 (ln m4 (ln m3 (ln m2 (ln m1 hp8))))) ha6 hb6 (by omega)
    have wi : (ws.map V.str)[i]? = some (.str ws[i]) := by rw [List.getElem?_map, List.getElem?_eq_getElem i1]; rfl
    have wj : (ws.map V.str)[j]? = some (.str ws[j]) := by rw [List.getElem?_map, List.getElem?_eq_getElem j1]; rfl
    refine ⟨_, rfl, _, rfl, W, _, _, _, rfl, rfl, SqL.of hW8, atI_nat wj, _, rfl, _, rfl, W, _, _, _, rfl, rfl, SqL.of hW8, atI_nat wi, two_le, fun u nu => ?_⟩
    refine ⟨u, _, rfl, SqT.of upd_same, rfl, _, _, rfl, _, rfl, _, rfl, W, _, _, i, rfl, rfl, ln nu hW8, iN (by omega), _, _, rfl, _, rfl, _, rfl, W, _, _, j, rfl, rfl, upd_same, iN (by rw [List.length_set]; omega), rfl, ?_⟩
    rw [upd_upd, show ((ws.map V.str).set i (.str ws[j])).set j (.str ws[i]) = ((ws.set i ws[j]).set j ws[i]).map V.str by rw [List.map_set, List.map_set]]
    have t1 := tot_set (ws.set i ws[j]) j ws[i]
    have t2 := tot_set ws i ws[j]
    have t3 := tot_mem (List.getElem_mem i1)
    have t4 := tot_mem (List.getElem_mem j1)
    have t6 := tl_join12 ((ws.set i ws[j]).set j ws[i])
    have gu := (g8.own (o := .tup [.str ws[j], .str ws[i]]) nu).set (q := W) (o := .lst (((ws.set i ws[j]).set j ws[i]).map V.str)) (g5.free nW) (.inl (g5.th _ nW))
    refine ⟨⟨_, rfl⟩, _, rfl, _, W, (ws.set i ws[j]).set j ws[i], rfl, rfl, .inl (SqL.of upd_same), ?_, ?_⟩
    · rw [bl1, Nat.mul_one]
      show tot _ ≤ _
      omega
    · exact q _ _ a6 b6 gu ((upd_ne pW.symm).trans (ln nu hp8)) ha6 hb6 (by omega)
/-! ### text * int -/
theorem op_mulS {X : Cx} : OpR X (binaryOp .Mult) (fun x y H Q => ∃ a n, x = .str a ∧ y = .int n ∧ MulOk a n ∧ Q (.str (Txt.mul a n)) H) := by
  intro pins s σ H x y v u Q I rx ry h
  obtain ⟨i, j, rfl, rfl, hz, q⟩ := h
  obtain ⟨t, rfl⟩ := rx
  obtain ⟨t', rfl⟩ := ry
  exact SB.mul hz (fun t' tk => ⟨.str _, H, I.tok _, ⟨_, rfl⟩, q⟩)
theorem mul_len {x : Str} {n k : Nat} (h : x.length * n = k) : (Txt.mul x (n : Int)).length = k := by
  have z := PyProof.Rows.len_mul x (n : Int)
  rw [show (if decide ((n : Int) < 0) = true then (0 : Int) else (n : Int)) = n by rw [if_neg]; rw [decide_eq_true_iff]; omega] at z
  have z : ((Txt.mul x (n : Int)).length : Int) = ((x.length * n : Nat) : Int) := z.trans (Int.natCast_mul _ _).symm
  omega
/-! ### odd words -/
def sp_L_odd : Sp := fun vs H Q _ => ∃ (F : Hp) (p : Addr) (a b : Int) (x : Str), vs = [.ref p, .str x] ∧ Same F H ∧ F p = none ∧ H p = some (PurseO a b) ∧ 0 ≤ a ∧ 0 ≤ b ∧ x.length ≤ 100000 ∧
  ∀ (H' : Hp) (y : Str) (a' b' : Int), Gr (muP p) F H F H' → H' p = some (PurseO a' b') → 0 ≤ a' → 0 ≤ b' → y.length ≤ x.length + 4403 → Q (.str y) H'
theorem ok_L_odd (t : Tx K mg) : FnOk P w K mg base CX0 2 t.a_L_odd t.fd_L_odd ["_law_purse_here", "_law_text"] sp_L_odd := by
  refine t.F_L_odd.ok sc_L_odd (fun vs H Q E h => ?_) (fun cdv A outer s H vs Q E hr h => ?_)
  · obtain ⟨F, p, a, b, x, rfl, _⟩ := h
    rfl
  · obtain ⟨F, p, a, b, x, rfl, sF, fp, hp, ha, hb, hx, q⟩ := h
    refine ⟨_, (pss_cons (ps_set (i := 2) sc_L_odd.nd rfl (by first | exact Or.inl rfl | exact Or.inr rfl) (pe_op op_mulS pe_str pe_int))
      (pss_cons (ps_set (i := 3) sc_L_odd.nd rfl (by first | exact Or.inl rfl | exact Or.inr rfl) (pe_lst (pa_cons pe_str (pa_cons pe_str (pa_cons pe_str (pa_cons pe_str (pa_cons pe_str (pa_cons pe_str (pa_cons pe_str (pa_cons pe_str (pa_cons (pv 2) (pa_cons (pe_op op_add_str pe_str (pv 2)) (pa_cons (pe_op op_add_str (pv 2) pe_str) (pa_cons (pe_op op_add_str pe_str (pe_op op_mulS pe_str pe_int)) (pa_cons pe_str pa_nil)))))))))))))))
      (pss_cons (ps_set (i := 3) sc_L_odd.nd rfl (by first | exact Or.inl rfl | exact Or.inr rfl) (pe_op op_cat (pv 3) (pe_lst (pa_cons pe_str (pa_cons pe_str (pa_cons pe_str (pa_cons pe_str (pa_cons pe_str (pa_cons pe_str (pa_cons pe_str (pa_cons pe_str (pa_cons (pe_op op_add_str (pv 2) pe_str) (pa_cons (pe_op op_add_str (pe_op op_add_str pe_str (pv 2)) pe_str) pa_nil)))))))))))))
      (pss_cons (ps_set (i := 3) sc_L_odd.nd rfl (by first | exact Or.inl rfl | exact Or.inr rfl) (pe_op op_cat (pv 3) (pe_lst (pa_cons (pe_op op_add_str (pv 2) pe_str) (pa_cons pe_str (pa_cons pe_str (pa_cons (pe_op op_mulS pe_str pe_int) (pa_cons (pe_op op_add_str (pe_op op_mulS pe_str pe_int) pe_str) pa_nil))))))))
      (pss_cons (ps_set (i := 4) sc_L_odd.nd rfl (by first | exact Or.inl rfl | exact Or.inr rfl) (pe_split (pv 1) pe_str))
      (pss_cons (ps_asg (pe_ix ix_list (pv 3) (pe_call (ok_L_draw t) (hr.mono (by decide)) (by rfl) t.m_L_draw t.F_L_draw.kp t.b_L_draw .nil pass0 (pa_cons (pv 0) (pa_cons (pe_callB (id := "len") call_lenQ (by rfl) t.n_len (by decide +kernel) (pa_cons (pv 3) pa_nil)) pa_nil))) (fun _ _ => rfl)) (pg_sub (pv 4) (pe_call (ok_L_draw t) (hr.mono (by decide)) (by rfl) t.m_L_draw t.F_L_draw.kp t.b_L_draw .nil pass0 (pa_cons (pv 0) (pa_cons (pe_callB (id := "len") call_lenQ (by rfl) t.n_len (by decide +kernel) (pa_cons (pv 4) pa_nil)) pa_nil))) set_list))
      (pss_one (ps_ret (pe_join pe_str (pv 4)))))))))), ?_⟩
    have g0 : Gr (muP p) F H F H := Gr.refl sF
    have m9 : MulOk ("9" : Str) 9 := ⟨by decide, fun _ _ => by decide +kernel, fun _ _ => by decide +kernel⟩
    have m0 : MulOk ("0" : Str) 9 := ⟨by decide, fun _ _ => by decide +kernel, fun _ _ => by decide +kernel⟩
    have m44 : MulOk ("9" : Str) 4400 := ⟨by decide, fun _ _ => by decide +kernel, fun _ _ => by decide +kernel⟩
    have l9 : (Txt.mul ("9" : Str) 9).length = 9 := mul_len (n := 9) (by decide +kernel)
    have l0 : (Txt.mul ("0" : Str) 9).length = 9 := mul_len (n := 9) (by decide +kernel)
    have l44 : (Txt.mul ("9" : Str) 4400).length = 4400 := mul_len (n := 4400) (by decide +kernel)
    refine ⟨_, _, rfl, rfl, m9, ?_⟩
    generalize Txt.mul ("9" : Str) 9 = z9 at l9 ⊢
    have s1 : ∀ (u : Str), u.length = 1 → z9.length + u.length ≤ sizeLine := fun u h => le_size (by omega)
    have s2 : ∀ (u : Str), u.length = 2 → z9.length + u.length ≤ sizeLine := fun u h => le_size (by omega)
    have s3 : ∀ (u : Str), u.length = 1 → u.length + z9.length ≤ sizeLine := fun u h => le_size (by omega)
    refine ⟨_, rfl, _, rfl, _, _, rfl, rfl, s3 _ (by decide +kernel), _, rfl, _, _, rfl, rfl, s1 _ (by decide +kernel), _, _, rfl, rfl, m0, ?_⟩
    generalize Txt.mul ("0" : Str) 9 = z0 at l0 ⊢
    refine ⟨_, _, rfl, rfl, by rw [l0]; exact le_size (by decide +kernel), le_size (n := 13) (by decide), fun l1 n1 => ?_⟩
    obtain ⟨ws1, e1, h1⟩ : ∃ ws : List Str, ([V.str "0", .str "-0", .str "00", .str "01", .str "+1", .str "-", .str "", .str "1_0", .str z9, .str ("-" ++ z9), .str (z9 ++ "9"), .str ("-1" ++ z0), .str "0=1"] : List V) = ws.map V.str ∧ ∀ y ∈ ws, y.length ≤ 4402 :=
      ⟨["0", "-0", "00", "01", "+1", "-", "", "1_0", z9, "-" ++ z9, z9 ++ "9", "-1" ++ z0, "0=1"], rfl, fun y m => by
        simp only [List.mem_cons, List.not_mem_nil, or_false] at m
        rcases m with rfl | rfl | rfl | rfl | rfl | rfl | rfl | rfl | rfl | rfl | rfl | rfl | rfl <;> first | decide +kernel | (simp only [str_len_app, l9, l0]; decide +kernel)⟩
    have w1 := congrArg List.length e1
    rw [List.length_map] at w1
    have w1 : 13 = ws1.length := w1
    rw [e1]
    have g1 := g0.own (o := .lst (ws1.map V.str)) n1
    have hp1 := ln (u := .lst (ws1.map V.str)) n1 hp
    have hl1 : (upd H l1 (.lst (ws1.map V.str))) l1 = some (.lst (ws1.map V.str)) := upd_same
    generalize upd H l1 (.lst (ws1.map V.str)) = H1 at g1 hp1 hl1 ⊢
    clear e1
    refine ⟨_, rfl, _, rfl, _, _, rfl, rfl, s2 _ (by decide +kernel), _, rfl, _, _, rfl, rfl, s3 _ (by decide +kernel), _, _, rfl, rfl, by rw [str_len_app, l9]; exact le_size (by decide +kernel), le_size (n := 10) (by decide), fun l2 n2 => ?_⟩
    obtain ⟨ws2, e2, h2⟩ : ∃ ws : List Str, ([V.str "-0=1", .str "1=0", .str "1=4", .str "1=12", .str "1==1", .str "=1", .str "1=", .str "1", .str (z9 ++ "=3"), .str ("-" ++ z9 ++ "=1")] : List V) = ws.map V.str ∧ ∀ y ∈ ws, y.length ≤ 4402 :=
      ⟨["-0=1", "1=0", "1=4", "1=12", "1==1", "=1", "1=", "1", z9 ++ "=3", "-" ++ z9 ++ "=1"], rfl, fun y m => by
        simp only [List.mem_cons, List.not_mem_nil, or_false] at m
        rcases m with rfl | rfl | rfl | rfl | rfl | rfl | rfl | rfl | rfl | rfl <;> first | decide +kernel | (simp only [str_len_app, l9, l0]; decide +kernel)⟩
    have w2 := congrArg List.length e2
    rw [List.length_map] at w2
    have w2 : 10 = ws2.length := w2
    rw [e2]
    have g2 := g1.own (o := .lst (ws2.map V.str)) n2
    have hp2 := ln (u := .lst (ws2.map V.str)) n2 hp1
    have hl2 : (upd H1 l2 (.lst (ws2.map V.str))) l2 = some (.lst (ws2.map V.str)) := upd_same
    have hl12 := ln (u := .lst (ws2.map V.str)) n2 hl1
    generalize upd H1 l2 (.lst (ws2.map V.str)) = H2 at g2 hp2 hl2 hl12 ⊢
    clear e2
    refine ⟨l1, l2, _, _, rfl, rfl, hl12, hl2, by rw [List.length_map, List.length_map]; exact le_size (by omega), fun l3 n3 => ?_⟩
    rw [← List.map_append]
    have g3 := g2.own (o := .lst ((ws1 ++ ws2).map V.str)) n3
    have hp3 := ln (u := .lst ((ws1 ++ ws2).map V.str)) n3 hp2
    have hl3 : (upd H2 l3 (.lst ((ws1 ++ ws2).map V.str))) l3 = some (.lst ((ws1 ++ ws2).map V.str)) := upd_same
    generalize upd H2 l3 (.lst ((ws1 ++ ws2).map V.str)) = H3 at g3 hp3 hl3 ⊢
    refine ⟨_, rfl, _, rfl, _, _, rfl, rfl, by rw [l9]; exact le_size (by decide +kernel), _, _, rfl, rfl, m44, _, _, rfl, rfl, m44, ?_⟩
    generalize Txt.mul ("9" : Str) 4400 = z44 at l44 ⊢
    refine ⟨_, _, rfl, rfl, by rw [l44]; exact le_size (by decide +kernel), le_size (n := 5) (by decide), fun l4 n4 => ?_⟩
    obtain ⟨ws3, e3, h3⟩ : ∃ ws : List Str, ([V.str (z9 ++ "9=2"), .str "A", .str "E", .str z44, .str (z44 ++ "=1")] : List V) = ws.map V.str ∧ ∀ y ∈ ws, y.length ≤ 4402 :=
      ⟨[z9 ++ "9=2", "A", "E", z44, z44 ++ "=1"], rfl, fun y m => by
        simp only [List.mem_cons, List.not_mem_nil, or_false] at m
        rcases m with rfl | rfl | rfl | rfl | rfl <;> first | decide +kernel | (simp only [str_len_app, l9, l0, l44]; decide +kernel)⟩
    have w3 := congrArg List.length e3
    rw [List.length_map] at w3
    have w3 : 5 = ws3.length := w3
    rw [e3]
    have g4 := g3.own (o := .lst (ws3.map V.str)) n4
    have hp4 := ln (u := .lst (ws3.map V.str)) n4 hp3
    have hl4 : (upd H3 l4 (.lst (ws3.map V.str))) l4 = some (.lst (ws3.map V.str)) := upd_same
    have hl34 := ln (u := .lst (ws3.map V.str)) n4 hl3
    generalize upd H3 l4 (.lst (ws3.map V.str)) = H4 at g4 hp4 hl4 hl34 ⊢
    clear e3
    refine ⟨l3, l4, _, _, rfl, rfl, hl34, hl4, by rw [List.length_map, List.length_map, List.length_append]; exact le_size (by omega), fun S n5 => ?_⟩
    rw [← List.map_append]
    have hw : ∀ y ∈ ws1 ++ ws2 ++ ws3, y.length ≤ 4402 := fun y m => by
      rcases List.mem_append.mp m with m | m
      · rcases List.mem_append.mp m with m | m
        · exact h1 y m
        · exact h2 y m
      · exact h3 y m
    have lw : (ws1 ++ ws2 ++ ws3).length = 28 := by rw [List.length_append, List.length_append]; omega
    generalize ws1 ++ ws2 ++ ws3 = odd at hw lw ⊢
    have g5 := g4.own (o := .lst (odd.map V.str)) n5
    have hp5 := ln (u := .lst (odd.map V.str)) n5 hp4
    have hS : (upd H4 S (.lst (odd.map V.str))) S = some (.lst (odd.map V.str)) := upd_same
    generalize upd H4 S (.lst (odd.map V.str)) = H5 at g5 hp5 hS ⊢
    have ls := PyProof.Rows.split_le x " "
    refine ⟨_, rfl, ⟨_, rfl⟩, _, _, rfl, rfl, by decide +kernel, le_size (n := x.length + 2) (by omega), fun W nW => ?_⟩
    have ts := tot_split x
    have ne := split_ne x
    generalize Txt.split x " " = ws at ts ne ls ⊢
    have n0 : 0 < ws.length := List.length_pos_iff.mpr ne
    have g6 := g5.own (o := .lst (ws.map V.str)) nW
    have hp6 := ln (u := .lst (ws.map V.str)) nW hp5
    have hS6 := ln (u := .lst (ws.map V.str)) nW hS
    have hW : (upd H5 W (.lst (ws.map V.str))) W = some (.lst (ws.map V.str)) := upd_same
    have pW : W ≠ p := (ne_of_none hp5 nW).symm
    have pS : S ≠ p := fun e => by rw [e] at n5; rw [hp4] at n5; cases n5
    generalize upd H5 W (.lst (ws.map V.str)) = H6 at g6 hp6 hS6 hW ⊢
    have lo : (odd.map V.str).length = 28 := by rw [List.length_map]; exact lw
    have lW : (ws.map V.str).length = ws.length := List.length_map _
    refine ⟨_, rfl, _, rfl, _, rfl, S, _, rfl, .inl (SqL.of hS6), p, a, b, ((odd.map V.str).length : Int), rfl, hp6, ha, hb, by omega, by omega, fun d a5 b5 d0 d1 ha5 hb5 => ?_⟩
    have g7 := g6.set (o := PurseO a5 b5) fp (.inr rfl)
    have hp7 : (upd H6 p (PurseO a5 b5)) p = some (PurseO a5 b5) := upd_same
    have hW7 := (upd_ne (o := PurseO a5 b5) pW).trans hW
    have hS7 := (upd_ne (o := PurseO a5 b5) pS).trans hS6
    generalize upd H6 p (PurseO a5 b5) = H7 at g7 hp7 hW7 hS7 ⊢
    obtain ⟨i, rfl⟩ := Int.eq_ofNat_of_zero_le d0
    have i1 : i < odd.length := by omega
    have wi : (odd.map V.str)[i]? = some (.str odd[i]) := by rw [List.getElem?_map, List.getElem?_eq_getElem i1]; rfl
    have ly := hw _ (List.getElem_mem i1)
    refine ⟨S, _, _, _, rfl, rfl, SqL.of hS7, atI_nat wi, ?_⟩
    generalize odd[i] = y at ly ⊢
    refine ⟨_, rfl, _, rfl, _, rfl, W, _, rfl, .inl (SqL.of hW7), p, a5, b5, ((ws.map V.str).length : Int), rfl, hp7, ha5, hb5, by omega, by omega, fun e a6 b6 e0 e1 ha6 hb6 => ?_⟩
    have g8 := g7.set (o := PurseO a6 b6) fp (.inr rfl)
    have hp8 : (upd H7 p (PurseO a6 b6)) p = some (PurseO a6 b6) := upd_same
    have hW8 := (upd_ne (o := PurseO a6 b6) pW).trans hW7
    generalize upd H7 p (PurseO a6 b6) = H8 at g8 hp8 hW8 ⊢
    obtain ⟨j, rfl⟩ := Int.eq_ofNat_of_zero_le e0
    refine ⟨W, _, _, j, rfl, rfl, hW8, iN (by omega), ?_⟩
    rw [show (ws.map V.str).set j (.str y) = (ws.set j y).map V.str by rw [List.map_set]]
    have t1 := tot_set ws j y
    have t2 := tl_join12 (ws.set j y)
    have gu := g8.set (q := W) (o := .lst ((ws.set j y).map V.str)) (g5.free nW) (.inl (g5.th _ nW))
    have bl1 : (" " : Str).length = 1 := blank_len
    refine ⟨⟨_, rfl⟩, _, rfl, _, W, ws.set j y, rfl, rfl, .inl (SqL.of upd_same), ?_, ?_⟩
    · rw [bl1, Nat.mul_one]
      show tot _ ≤ _
      omega
    · exact q _ _ a6 b6 gu ((upd_ne pW.symm).trans hp8) ha6 hb6 (by omega)
/-! ### setups as texts -/
def eqT (c : PI) : Str := (toString c.a : Str) ++ ("=" : Str) ++ (toString c.b : Str)
def wordsT (x : Setup) : List Str := rowT x.a :: (toString x.b : Str) :: x.c.map eqT
def setT (x : Setup) : Str := Txt.join " " (wordsT x)
/-- numbers of no more than 31 figures -/
abbrev B31 (i : Int) : Prop := i.natAbs < 10000000000000000000000000000000
structure SetOk (x : Setup) : Prop where
  a0 : 0 ≤ x.a
  a1 : x.a < 4
  b : B31 x.b
  c : ∀ c ∈ x.c, B31 c.a ∧ B31 c.b
  n : x.c.length ≤ 40
theorem eqT_len {c : PI} (h : B31 c.a ∧ B31 c.b) : (eqT c).length ≤ 65 := by
  have h1 := tl_len31 h.1
  have h2 := tl_len31 h.2
  unfold eqT
  rw [str_len_app, str_len_app]
  have : ("=" : Str).length = 1 := by decide +kernel
  omega
theorem words_len {x : Setup} (h : SetOk x) : ∀ y ∈ wordsT x, y.length ≤ 65 := fun y m => by
  rcases List.mem_cons.mp m with rfl | m
  · rw [rowT_len]; decide
  rcases List.mem_cons.mp m with rfl | m
  · have := tl_len31 h.b
    omega
  · obtain ⟨c, hc, rfl⟩ := List.mem_map.mp m
    exact eqT_len (h.c c hc)
theorem words_sum {x : Setup} (h : SetOk x) : ((wordsT x).map (·.length)).sum + (wordsT x).length * (" " : Str).length ≤ 16777216 := by
  have z := join_le " " (wordsT x) (words_len h)
  have n := h.n
  have e : (wordsT x).length = x.c.length + 2 := by show (List.map eqT x.c).length + 1 + 1 = _; rw [List.length_map]
  rw [e] at z ⊢
  rw [blank_len] at z ⊢
  omega
def sp_show_setup : Sp := fun vs H Q _ => ∃ (F : Hp) (v : V) (x : Setup), vs = [v] ∧ Same F H ∧ Is F v x ∧ SetOk x ∧ ∀ H', Gr mu0 F H F H' → Q (.str (setT x)) H'
def sp_L_setup_text : Sp := sp_show_setup
theorem ok_L_setup_text (t : Tx K mg) : FnOk P w K mg base CX0 1 t.a_L_setup_text t.fd_L_setup_text ["_law_setup_here"] sp_L_setup_text := by
  refine t.F_L_setup_text.ok sc_L_setup_text (fun vs H Q E h => ?_) (fun cdv A outer s H vs Q E hr h => ?_)
  · obtain ⟨F, v, x, rfl, _⟩ := h
    rfl
  · obtain ⟨F, v, x, rfl, sF, hv, hx, q⟩ := h
    refine ⟨_, (pss_cons (ps_set (i := 1) sc_L_setup_text.nd rfl (by first | exact Or.inl rfl | exact Or.inr rfl) (pe_lst (pa_cons (pe_ix ix_str pe_str (pe_ix ix_tup (pv 0) pe_int (fun _ _ => rfl)) (fun _ _ => rfl)) (pa_cons (pe_callTy (T := "str") call_str_int (by rfl) t.n_str (by decide +kernel) (pa_cons (pe_ix ix_tup (pv 0) pe_int (fun _ _ => rfl)) pa_nil)) pa_nil))))
      (pss_cons (ps_for PassesOwn.never rfl (pi_list (pe_ix ix_tup (pv 0) pe_int (fun _ _ => rfl))) (pg_tup rfl (pgs_cons (pg_name (i := 2) sc_L_setup_text.nd rfl (by first | exact Or.inl rfl | exact Or.inr rfl)) (pgs_cons (pg_name (i := 3) sc_L_setup_text.nd rfl (by first | exact Or.inl rfl | exact Or.inr rfl)) pgs_nil))) (pss_one (ps_expr (pe_bm PySem.F.plainAttrs_list PySem.F.slot_list_append PySem.F.type_list_append mt_append (pv 1) (pa_cons (pe_op op_add_str (pe_op op_add_str (pe_callTy (T := "str") call_str_int (by rfl) t.n_str (by decide +kernel) (pa_cons (pv 2) pa_nil)) pe_str) (pe_callTy (T := "str") call_str_int (by rfl) t.n_str (by decide +kernel) (pa_cons (pv 3) pa_nil))) pa_nil)))))
      (pss_one (ps_ret (pe_join pe_str (pv 1)))))), ?_⟩
    have g0 : Gr mu0 F H F H := Gr.refl sF
    obtain ⟨p, x1, x2, x3, rfl, hp, e1, e2, l, cs, rfl, hl, hcs⟩ := hv
    have e1 : x1 = .int x.a := e1
    have e2 : x2 = .int x.b := e2
    subst e1
    subst e2
    have hT := SqT.of (K := K) (g0.fh _ _ hp)
    obtain ⟨c1, hc1, ec1⟩ := rowT_at hx.a0 hx.a1
    refine ⟨_, rfl, p, _, _, _, rfl, rfl, hT, atI_nat (j := 0) rfl, _, _, c1, rfl, rfl, by decide +kernel, hc1, ?_⟩
    rw [ec1]
    refine ⟨_, rfl, p, _, _, _, rfl, rfl, hT, atI_nat (j := 1) rfl, _, rfl, log31 hx.b, two_le, fun W nW => ?_⟩
    have g1 := g0.own (o := .lst [.str (rowT x.a), .str (toString x.b)]) nW
    have hW : (upd H W (.lst [.str (rowT x.a), .str (toString x.b)])) W = some (.lst [.str (rowT x.a), .str (toString x.b)]) := upd_same
    generalize upd H W (.lst [.str (rowT x.a), .str (toString x.b)]) = H1 at g1 hW ⊢
    refine ⟨_, rfl, p, _, _, _, rfl, rfl, SqT.of (g1.fh _ _ hp), atI_nat (j := 2) rfl, l, rfl, ⟨_, SqL.of (g1.fh _ _ hl)⟩, for_list (K := K) (a := l) (xs := cs) (fun i σ G => ∃ v2 v3 : Option V, σ = [some (.ref p), some (.ref W), v2, v3] ∧ Gr mu0 F H F G ∧ G W = some (.lst ((rowT x.a :: (toString x.b : Str) :: (x.c.take i).map eqT).map V.str))) ⟨none, none, rfl, g1, hW⟩ (fun i σ G _ p => SqL.of (p.choose_spec.choose_spec.2.1.fh _ _ hl)) ?_ ?_⟩
    · rintro i y σ G hi ⟨v2, v3, rfl, g, hWG⟩
      obtain ⟨c, hc, b, y1, y2, rfl, hb, d1, d2⟩ := hcs.get' hi
      have d1 : y1 = .int c.a := d1
      have d2 : y2 = .int c.b := d2
      subst d1
      subst d2
      have hcc := hx.c c (List.mem_of_getElem? hc)
      have l1 := tl_len31 hcc.1
      have l2 := tl_len31 hcc.2
      have le1 : ("=" : Str).length = 1 := by decide +kernel
      have lcs : cs.length = x.c.length := hcs.1
      have il := (List.getElem?_eq_some_iff.mp hi).1
      have n40 := hx.n
      refine ⟨b, _, rfl, SqT.of (g.fh _ _ hb), rfl, _, _, rfl, _, _, rfl, rfl, _, rfl, .inl ⟨rfl, _, SqL.of hWG⟩, ?_⟩
      refine ⟨_, rfl, _, rfl, log31 hcc.1, _, _, rfl, rfl, by rw [le1]; exact le_size (by omega), _, rfl, _, rfl, log31 hcc.2, _, _, rfl, rfl, by rw [str_len_app, le1]; exact le_size (by omega), ?_⟩
      refine ⟨W, _, _, rfl, rfl, hWG, by rw [List.length_map, List.length_cons, List.length_cons, List.length_map, List.length_take]; exact lt_size (by omega), ?_⟩
      refine ⟨_, _, rfl, g.set (sF.free (by first | assumption | exact nW)) (.inl nW), ?_⟩
      rw [upd_same, show V.str ((toString c.a : Str) ++ ("=" : Str) ++ (toString c.b : Str)) = V.str (eqT c) from rfl]
      show some (HO.lst (V.str _ :: V.str _ :: (((x.c.take i).map eqT).map V.str ++ [V.str (eqT c)]))) = some (HO.lst (V.str _ :: V.str _ :: ((x.c.take (i + 1)).map eqT).map V.str))
      rw [mt3 (f := eqT) hc]
    · rintro σ G ⟨v2, v3, rfl, g, hWG⟩
      rw [hcs.1, List.take_length] at hWG
      refine ⟨⟨_, rfl⟩, _, rfl, _, W, wordsT x, rfl, rfl, .inl (SqL.of hWG), words_sum hx, ?_⟩
      exact q _ g
structure RdOk (x : Setup) : Prop where
  a0 : 0 ≤ x.a
  a1 : x.a < 4
  b : x.b.natAbs < 1000000000
  c : ∀ c ∈ x.c, c.a.natAbs < 1000000000 ∧ 1 ≤ c.b ∧ c.b ≤ 3
  n : x.c.length ≤ 40
  up : ∀ (k : Nat) (c d : PI), x.c[k]? = some c → x.c[k + 1]? = some d → c.a < d.a
theorem RdOk.set {x : Setup} (h : RdOk x) : SetOk x := ⟨h.a0, h.a1, by have := h.b; show x.b.natAbs < _; omega, fun c m => by
  have := h.c c m
  exact ⟨by show c.a.natAbs < _; omega, by show c.b.natAbs < _; omega⟩, h.n⟩
theorem blank_tl : TL.tl (" " : Str) = [32] := by decide +kernel
theorem rowT_tl (r : Int) : 32 ∉ TL.tl (rowT r) := by
  unfold rowT
  split
  · decide +kernel
  split
  · decide +kernel
  split
  · decide +kernel
  · decide +kernel
theorem eqT_tl (c : PI) : 32 ∉ TL.tl (eqT c) := by
  unfold eqT
  rw [TL.tl_append, TL.tl_append, eq_tl]
  intro m
  rcases List.mem_append.mp m with m | m
  · rcases List.mem_append.mp m with m | m
    · exact no_sign ⟨by decide, by decide⟩ _ m
    · exact absurd m (by decide)
  · exact no_sign ⟨by decide, by decide⟩ _ m
theorem split_set (x : Setup) : Txt.split (setT x) " " = wordsT x := by
  refine TL.split_join (s := 32) (S := []) blank_tl (by decide +kernel) (by unfold wordsT; simp) fun p m => ?_
  rcases List.mem_cons.mp m with rfl | m
  · exact rowT_tl _
  rcases List.mem_cons.mp m with rfl | m
  · exact no_sign ⟨by decide, by decide⟩ _
  · obtain ⟨c, _, rfl⟩ := List.mem_map.mp m
    exact eqT_tl c
theorem rowL_row {r : Int} (h0 : 0 ≤ r) (h1 : r < 4) : rowL (TL.tl (rowT r)) = some r := by
  have h : r = 0 ∨ r = 1 ∨ r = 2 ∨ r = 3 := by omega
  rcases h with rfl | rfl | rfl | rfl <;> decide +kernel
theorem placeL_int {i : Int} (h : i.natAbs < 1000000000) : placeL (TL.tl (toString i : Str)) = some i := by
  have hl := TL.numL_len (k := 9) (n := i.natAbs) (by decide) h
  have hn := TL.numL_ne i.natAbs
  have hd := TL.numL_digits i.natAbs
  have l1 : 1 ≤ (TL.numL i.natAbs).length := List.length_pos_iff.mpr hn
  have ha : (TL.numL i.natAbs).all isF = true := List.all_eq_true.mpr fun c m => decide_eq_true (by have := hd c m; omega)
  by_cases h0 : 0 ≤ i
  · rw [tl_pos h0]
    have m : ¬ (TL.numL i.natAbs).take 1 = [45] := fun e => by
      have : 45 ∈ (TL.numL i.natAbs).take 1 := by rw [e]; exact List.mem_singleton.mpr rfl
      have := hd 45 (List.mem_of_mem_take this)
      omega
    have ef : figL (TL.numL i.natAbs) = TL.numL i.natAbs := by unfold figL; rw [if_neg m]
    unfold placeL
    have hh : (TL.numL i.natAbs).headD 0 ≠ 48 ∨ TL.numL i.natAbs = [48] := by
      by_cases z : i.natAbs = 0
      · right; rw [z]; decide +kernel
      · obtain ⟨c, r, e, hc⟩ := numL_head z
        left; rw [e]; exact hc
    rw [ef, if_neg m, TL.numL_val, if_pos ⟨l1, hl, ha, hh⟩]
    exact congrArg some (by omega)
  · rw [tl_neg (by omega)]
    have m : (45 :: TL.numL i.natAbs).take 1 = [45] := rfl
    have ef : figL (45 :: TL.numL i.natAbs) = TL.numL i.natAbs := by unfold figL; rw [if_pos m]; rfl
    unfold placeL
    have hh : (TL.numL i.natAbs).headD 0 ≠ 48 ∨ 45 :: TL.numL i.natAbs = [48] := by
      obtain ⟨c, r, e, hc⟩ := numL_head (n := i.natAbs) (by omega)
      left; rw [e]; exact hc
    rw [ef, if_pos m, TL.numL_val, if_pos ⟨l1, hl, ha, hh⟩]
    exact congrArg some (by omega)
theorem signL_eq {c : PI} (h : c.a.natAbs < 1000000000) (h1 : 1 ≤ c.b) (h3 : c.b ≤ 3) : signL (TL.tl (eqT c)) = some c := by
  have e : TL.tl (eqT c) = TL.tl (toString c.a : Str) ++ ([61] ++ TL.tl (toString c.b : Str)) := by
    unfold eqT
    rw [TL.tl_append, TL.tl_append, eq_tl, List.append_assoc]
  have z := TL.par_part1 (s := 61) (S := []) (p := TL.tl (toString c.a : Str)) (rest := TL.tl (toString c.b : Str)) (acc := []) (no_sign ⟨by decide, by decide⟩ c.a)
  have z : TL.par [61] [] (TL.tl (toString c.a : Str) ++ ([61] ++ TL.tl (toString c.b : Str))) = some (TL.tl (toString c.a : Str), TL.tl (toString c.b : Str)) := z
  unfold signL
  rw [e, z]
  show (if figT3 (TL.tl (toString c.b : Str)) = true then (placeL (TL.tl (toString c.a : Str))).map fun i => (⟨i, ((TL.tl (toString c.b : Str)).headD 0 : Int) - 48⟩ : PI) else none) = some c
  rw [placeL_int h]
  obtain ⟨a, b⟩ := c
  have hb : b = 1 ∨ b = 2 ∨ b = 3 := by
    have h1 : 1 ≤ b := h1
    have h3 : b ≤ 3 := h3
    omega
  have k : figT3 (TL.tl (toString b : Str)) = true ∧ ((TL.tl (toString b : Str)).headD 0 : Int) - 48 = b := by
    rcases hb with rfl | rfl | rfl <;> exact ⟨by decide +kernel, by decide +kernel⟩
  show (if figT3 (TL.tl (toString b : Str)) = true then (some a).map fun i => (⟨i, ((TL.tl (toString b : Str)).headD 0 : Int) - 48⟩ : PI) else none) = some ⟨a, b⟩
  rw [if_pos k.1, k.2]
  rfl
theorem setupL_set {x : Setup} (h : RdOk x) : setupL (setT x) = some x := by
  unfold setupL
  rw [split_set]
  refine setupW_some (by rw [List.length_map]; exact h.n) (rowL_row h.a0 h.a1) (placeL_int h.b) ?_ ((risB_iff x.c).mpr h.up)
  rw [List.map_map]
  refine List.map_congr_left fun c m => ?_
  obtain ⟨c1, c2, c3⟩ := h.c c m
  exact signL_eq c1 c2 c3
theorem setT_len {x : Setup} (h : RdOk x) : (setT x).length ≤ 588 := by
  have wl : ∀ y ∈ wordsT x, y.length ≤ 13 := fun y m => by
    rcases List.mem_cons.mp m with rfl | m
    · rw [rowT_len]; decide
    rcases List.mem_cons.mp m with rfl | m
    · have := tl_len (k := 9) (i := x.b) (by decide) h.b
      omega
    · obtain ⟨c, hc, rfl⟩ := List.mem_map.mp m
      obtain ⟨c1, c2, c3⟩ := h.c c hc
      have h1 := tl_len (k := 9) (i := c.a) (by decide) c1
      have h2 := tl_len (k := 1) (i := c.b) (by decide) (by omega)
      unfold eqT
      rw [str_len_app, str_len_app]
      have : ("=" : Str).length = 1 := by decide +kernel
      omega
  have z := join_len_le " " (wordsT x) wl
  have n := h.n
  have e : (wordsT x).length = x.c.length + 2 := by show (List.map eqT x.c).length + 1 + 1 = _; rw [List.length_map]
  rw [e, blank_len] at z
  show (Txt.join " " (wordsT x)).length ≤ 588
  omega
/-! ### setups drawn -/
def sp_L_place : Sp := fun vs H Q _ => ∃ (F : Hp) (p : Addr) (a b : Int), vs = [.ref p] ∧ Same F H ∧ F p = none ∧ H p = some (PurseO a b) ∧ 0 ≤ a ∧ 0 ≤ b ∧
  ∀ (H' : Hp) (i : Int) (a' b' : Int), Gr (muP p) F H F H' → H' p = some (PurseO a' b') → 0 ≤ a' → 0 ≤ b' → i.natAbs < 1000000000 → Q (.int i) H'
theorem ok_L_place (t : Tx K mg) : FnOk P w K mg base CX0 2 t.a_L_place t.fd_L_place ["_law_purse_here"] sp_L_place := by
  refine t.F_L_place.ok sc_L_place (fun vs H Q E h => ?_) (fun cdv A outer s H vs Q E hr h => ?_)
  · obtain ⟨F, p, a, b, rfl, _⟩ := h
    rfl
  · obtain ⟨F, p, a, b, rfl, sF, fp, hp, ha, hb, q⟩ := h
    refine ⟨_, (pss_cons (ps_set (i := 1) sc_L_place.nd rfl (by first | exact Or.inl rfl | exact Or.inr rfl) (pe_ix ix_list (pe_lst (pa_cons pe_int (pa_cons pe_int (pa_cons pe_int (pa_cons pe_int (pa_cons (pe_op op_sub (pe_op op_pow pe_int pe_int) pe_int) pa_nil)))))) (pe_call (ok_L_draw t) (hr.mono (by decide)) (by rfl) t.m_L_draw t.F_L_draw.kp t.b_L_draw .nil pass0 (pa_cons (pv 0) (pa_cons pe_int pa_nil))) (fun _ _ => rfl)))
      (pss_one (ps_ret (pe_op op_sub (pe_call (ok_L_draw t) (hr.mono (by decide)) (by rfl) t.m_L_draw t.F_L_draw.kp t.b_L_draw .nil pass0 (pa_cons (pv 0) (pa_cons (pe_op op_add (pe_op op_mul pe_int (pv 1)) pe_int) pa_nil))) (pv 1))))), ?_⟩
    have g0 : Gr (muP p) F H F H := Gr.refl sF
    have e9 : (10 : Int) ^ (9 : Int).toNat - 1 = 999999999 := by decide
    refine ⟨_, _, rfl, rfl, ⟨by decide, by decide, by decide⟩, _, _, rfl, rfl, five_le, fun l nl => ?_⟩
    dsimp only
    rw [e9]
    have g1 := g0.own (o := .lst [.int 3, .int 1, .int 40, .int 1000, .int 999999999]) nl
    have hp1 := ln (u := .lst [.int 3, .int 1, .int 40, .int 1000, .int 999999999]) nl hp
    have hl1 : (upd H l (.lst [.int 3, .int 1, .int 40, .int 1000, .int 999999999])) l = some (.lst [.int 3, .int 1, .int 40, .int 1000, .int 999999999]) := upd_same
    have pl : l ≠ p := (ne_of_none hp nl).symm
    generalize upd H l (.lst [.int 3, .int 1, .int 40, .int 1000, .int 999999999]) = H1 at g1 hp1 hl1
    refine ⟨_, rfl, p, a, b, 5, rfl, hp1, ha, hb, by decide, by decide, fun d a1 b1 d0 d1 ha1 hb1 => ?_⟩
    have g2 := g1.set (o := PurseO a1 b1) fp (.inr rfl)
    have hp2 : (upd H1 p (PurseO a1 b1)) p = some (PurseO a1 b1) := upd_same
    have hl2 := (upd_ne (o := PurseO a1 b1) pl).trans hl1
    generalize upd H1 p (PurseO a1 b1) = H2 at g2 hp2 hl2
    obtain ⟨z, hz, hz0, hz1⟩ : ∃ z : Int, atI [V.int 3, V.int 1, V.int 40, V.int 1000, V.int 999999999] d = some (.int z) ∧ 1 ≤ z ∧ z ≤ 999999999 := by
      have h : d = 0 ∨ d = 1 ∨ d = 2 ∨ d = 3 ∨ d = 4 := by omega
      rcases h with rfl | rfl | rfl | rfl | rfl
      · exact ⟨3, rfl, by decide, by decide⟩
      · exact ⟨1, rfl, by decide, by decide⟩
      · exact ⟨40, rfl, by decide, by decide⟩
      · exact ⟨1000, rfl, by decide, by decide⟩
      · exact ⟨999999999, rfl, by decide, by decide⟩
    refine ⟨l, _, _, _, rfl, rfl, SqL.of hl2, hz, ?_⟩
    refine ⟨_, rfl, _, rfl, _, _, rfl, rfl, .inl ⟨by omega, by omega⟩, _, _, rfl, rfl, p, a1, b1, 2 * z + 1, rfl, hp2, ha1, hb1, by omega, by omega, fun e a2 b2 e0 e1 ha2 hb2 => ?_⟩
    have g3 := g2.set (o := PurseO a2 b2) fp (.inr rfl)
    exact ⟨_, rfl, _, _, rfl, rfl, q _ _ a2 b2 g3 upd_same ha2 hb2 (by omega)⟩
def sp_L_setup : Sp := fun vs H Q _ => ∃ (F : Hp) (p : Addr) (a b : Int), vs = [.ref p] ∧ Same F H ∧ F p = none ∧ H p = some (PurseO a b) ∧ 0 ≤ a ∧ 0 ≤ b ∧
  ∀ (F' H' : Hp) (v : V) (x : Setup) (a' b' : Int), Gr (muP p) F H F' H' → H' p = some (PurseO a' b') → 0 ≤ a' → 0 ≤ b' → Is F' v x → RdOk x → Q v H'
theorem ok_L_setup (t : Tx K mg) : FnOk P w K mg base CX0 3 t.a_L_setup t.fd_L_setup ["_law_purse_here"] sp_L_setup := by
  refine t.F_L_setup.ok sc_L_setup (fun vs H Q E h => ?_) (fun cdv A outer s H vs Q E hr h => ?_)
  · obtain ⟨F, p, a, b, rfl, _⟩ := h
    rfl
  · obtain ⟨F, p, a, b, rfl, sF, fp, hp, ha, hb, q⟩ := h
    refine ⟨_, (pss_cons (ps_set (i := 1) sc_L_setup.nd rfl (by first | exact Or.inl rfl | exact Or.inr rfl) (pe_ix ix_list (pe_lst (pa_cons pe_int (pa_cons pe_int (pa_cons (pe_call (ok_L_draw t) (hr.mono (by decide)) (by rfl) t.m_L_draw t.F_L_draw.kp t.b_L_draw .nil pass0 (pa_cons (pv 0) (pa_cons pe_int pa_nil))) (pa_cons (pe_call (ok_L_draw t) (hr.mono (by decide)) (by rfl) t.m_L_draw t.F_L_draw.kp t.b_L_draw .nil pass0 (pa_cons (pv 0) (pa_cons pe_int pa_nil))) (pa_cons pe_int (pa_cons pe_int pa_nil))))))) (pe_call (ok_L_draw t) (hr.mono (by decide)) (by rfl) t.m_L_draw t.F_L_draw.kp t.b_L_draw .nil pass0 (pa_cons (pv 0) (pa_cons pe_int pa_nil))) (fun _ _ => rfl)))
      (pss_cons (ps_set (i := 2) sc_L_setup.nd rfl (by first | exact Or.inl rfl | exact Or.inr rfl) (pe_ix ix_list (pe_lst (pa_cons (pe_call (ok_L_place t) (hr.mono (by decide)) (by rfl) t.m_L_place t.F_L_place.kp t.b_L_place .nil pass0 (pa_cons (pv 0) pa_nil)) (pa_cons (pe_op op_sub (pe_op op_sub (pe_op op_pow pe_int pe_int) pe_int) (pv 1)) (pa_cons (pe_op op_sub pe_int (pe_op op_pow pe_int pe_int)) pa_nil)))) (pe_call (ok_L_draw t) (hr.mono (by decide)) (by rfl) t.m_L_draw t.F_L_draw.kp t.b_L_draw .nil pass0 (pa_cons (pv 0) (pa_cons pe_int pa_nil))) (fun _ _ => rfl)))
      (pss_cons (ps_set (i := 3) sc_L_setup.nd rfl (by first | exact Or.inl rfl | exact Or.inr rfl) (pe_ix ix_list (pe_lst (pa_cons pe_int (pa_cons pe_int (pa_cons pe_int (pa_cons pe_int pa_nil))))) (pe_call (ok_L_draw t) (hr.mono (by decide)) (by rfl) t.m_L_draw t.F_L_draw.kp t.b_L_draw .nil pass0 (pa_cons (pv 0) (pa_cons pe_int pa_nil))) (fun _ _ => rfl)))
      (pss_cons (ps_set (i := 4) sc_L_setup.nd rfl (by first | exact Or.inl rfl | exact Or.inr rfl) (pe_lst pa_nil))
      (pss_cons (ps_for PassesOwn.never rfl (pi_range1 (by rfl) t.n_range (pa_cons (pv 1) pa_nil)) (pg_name (i := 5) sc_L_setup.nd rfl (by first | exact Or.inl rfl | exact Or.inr rfl)) (pss_cons (ps_if (pt_cmpR op_lt (pv 2) (pe_op op_pow pe_int pe_int) (nomark _)) (pss_one (ps_expr (pe_bm PySem.F.plainAttrs_list PySem.F.slot_list_append PySem.F.type_list_append mt_append (pv 4) (pa_cons (pe_tup (pa_cons (pv 2) (pa_cons (pe_op op_add pe_int (pe_call (ok_L_draw t) (hr.mono (by decide)) (by rfl) t.m_L_draw t.F_L_draw.kp t.b_L_draw .nil pass0 (pa_cons (pv 0) (pa_cons pe_int pa_nil)))) pa_nil))) pa_nil)))) pss_nil)
      (pss_one (ps_set (i := 2) sc_L_setup.nd rfl (by first | exact Or.inl rfl | exact Or.inr rfl) (pe_op op_add (pe_op op_add (pv 2) pe_int) (pe_call (ok_L_draw t) (hr.mono (by decide)) (by rfl) t.m_L_draw t.F_L_draw.kp t.b_L_draw .nil pass0 (pa_cons (pv 0) (pa_cons (pv 3) pa_nil))))))))
      (pss_one (ps_ret (pe_tup (pa_cons (pe_call (ok_L_draw t) (hr.mono (by decide)) (by rfl) t.m_L_draw t.F_L_draw.kp t.b_L_draw .nil pass0 (pa_cons (pv 0) (pa_cons pe_int pa_nil))) (pa_cons (pe_call (ok_L_place t) (hr.mono (by decide)) (by rfl) t.m_L_place t.F_L_place.kp t.b_L_place .nil pass0 (pa_cons (pv 0) pa_nil)) (pa_cons (pv 4) pa_nil))))))))))), ?_⟩
    have g0 : Gr (muP p) F H F H := Gr.refl sF
    refine ⟨_, rfl, p, a, b, 6, rfl, hp, ha, hb, by decide, by decide, fun d1 a1 b1 d10 d11 ha1 hb1 => ?_⟩
    have g1 := g0.set (o := PurseO a1 b1) fp (.inr rfl)
    have hp1 : (upd H p (PurseO a1 b1)) p = some (PurseO a1 b1) := upd_same
    generalize upd H p (PurseO a1 b1) = H1 at g1 hp1 ⊢
    refine ⟨_, rfl, p, a1, b1, 13, rfl, hp1, ha1, hb1, by decide, by decide, fun d2 a2 b2 d20 d21 ha2 hb2 => ⟨by show 6 ≤ sizeLine; decide, fun l nl => ?_⟩⟩
    have g2 := g1.set (o := PurseO a2 b2) fp (.inr rfl)
    have hp2 : (upd H1 p (PurseO a2 b2)) p = some (PurseO a2 b2) := upd_same
    generalize upd H1 p (PurseO a2 b2) = H2 at g2 hp2 nl ⊢
    have g3 := g2.own (o := .lst [.int 0, .int 1, .int d1, .int d2, .int 39, .int 40]) nl
    have hp3 := ln (u := .lst [.int 0, .int 1, .int d1, .int d2, .int 39, .int 40]) nl hp2
    have hl3 : (upd H2 l (.lst [.int 0, .int 1, .int d1, .int d2, .int 39, .int 40])) l = some (.lst [.int 0, .int 1, .int d1, .int d2, .int 39, .int 40]) := upd_same
    have pl : l ≠ p := (ne_of_none hp2 nl).symm
    generalize upd H2 l (.lst [.int 0, .int 1, .int d1, .int d2, .int 39, .int 40]) = H3 at g3 hp3 hl3 ⊢
    refine ⟨_, rfl, p, a2, b2, 6, rfl, hp3, ha2, hb2, by decide, by decide, fun d a3 b3 d0 d1' ha3 hb3 => ?_⟩
    have g4 := g3.set (o := PurseO a3 b3) fp (.inr rfl)
    have hp4 : (upd H3 p (PurseO a3 b3)) p = some (PurseO a3 b3) := upd_same
    have hl4 := (upd_ne (o := PurseO a3 b3) pl).trans hl3
    generalize upd H3 p (PurseO a3 b3) = H4 at g4 hp4 hl4 ⊢
    obtain ⟨n, hn, hn1⟩ : ∃ n : Nat, atI [V.int 0, V.int 1, V.int d1, V.int d2, V.int 39, V.int 40] d = some (.int n) ∧ n ≤ 40 := by
      have h : d = 0 ∨ d = 1 ∨ d = 2 ∨ d = 3 ∨ d = 4 ∨ d = 5 := by omega
      rcases h with rfl | rfl | rfl | rfl | rfl | rfl
      · exact ⟨0, rfl, by decide⟩
      · exact ⟨1, rfl, by decide⟩
      · exact ⟨d1.toNat, by rw [Int.toNat_of_nonneg d10]; rfl, by omega⟩
      · exact ⟨d2.toNat, by rw [Int.toNat_of_nonneg d20]; rfl, by omega⟩
      · exact ⟨39, rfl, by decide⟩
      · exact ⟨40, rfl, by decide⟩
    refine ⟨l, _, _, _, rfl, rfl, SqL.of hl4, hn, ?_⟩
    -- the first place
    refine ⟨_, rfl, F, p, a3, b3, rfl, g4.fh, fp, hp4, ha3, hb3, fun H5 i a5 b5 g5 hp5 ha5 hb5 hi => ?_⟩
    have g6 := g4.trans g5
    have e9 : (10 : Int) ^ (9 : Int).toNat = 1000000000 := by decide
    refine ⟨_, _, rfl, rfl, ⟨by decide, by decide, by decide⟩, _, _, rfl, rfl, _, rfl, _, _, rfl, rfl, _, _, rfl, rfl, ⟨by decide, by decide, by decide⟩, _, _, rfl, rfl, three_le, fun l2 nl2 => ?_⟩
    dsimp only
    rw [e9]
    have g7 := g6.own (o := .lst [.int i, .int (1000000000 - 1 - (n : Int)), .int (1 - 1000000000)]) nl2
    have hp7 := ln (u := .lst [.int i, .int (1000000000 - 1 - (n : Int)), .int (1 - 1000000000)]) nl2 hp5
    have hl7 : (upd H5 l2 (.lst [.int i, .int (1000000000 - 1 - (n : Int)), .int (1 - 1000000000)])) l2 = some (.lst [.int i, .int (1000000000 - 1 - (n : Int)), .int (1 - 1000000000)]) := upd_same
    have pl2 : l2 ≠ p := (ne_of_none hp5 nl2).symm
    generalize upd H5 l2 (.lst [.int i, .int (1000000000 - 1 - (n : Int)), .int (1 - 1000000000)]) = H7 at g7 hp7 hl7 ⊢
    refine ⟨_, rfl, p, a5, b5, 3, rfl, hp7, ha5, hb5, by decide, by decide, fun e a6 b6 e0 e1 ha6 hb6 => ?_⟩
    have g8 := g7.set (o := PurseO a6 b6) fp (.inr rfl)
    have hp8 : (upd H7 p (PurseO a6 b6)) p = some (PurseO a6 b6) := upd_same
    have hl8 := (upd_ne (o := PurseO a6 b6) pl2).trans hl7
    generalize upd H7 p (PurseO a6 b6) = H8 at g8 hp8 hl8 ⊢
    obtain ⟨y, hy, hy0⟩ : ∃ y : Int, atI [V.int i, V.int (1000000000 - 1 - (n : Int)), V.int (1 - 1000000000)] e = some (.int y) ∧ -999999999 ≤ y := by
      have h : e = 0 ∨ e = 1 ∨ e = 2 := by omega
      rcases h with rfl | rfl | rfl
      · exact ⟨i, rfl, by omega⟩
      · exact ⟨_, rfl, by omega⟩
      · exact ⟨_, rfl, by omega⟩
    refine ⟨l2, _, _, _, rfl, rfl, SqL.of hl8, hy, ?_⟩
    -- the widest stride
    refine ⟨four_le, fun l3 nl3 => ?_⟩
    have g9 := g8.own (o := .lst [.int 1, .int 2, .int 9, .int 20000000]) nl3
    have hp9 := ln (u := .lst [.int 1, .int 2, .int 9, .int 20000000]) nl3 hp8
    have hl9 : (upd H8 l3 (.lst [.int 1, .int 2, .int 9, .int 20000000])) l3 = some (.lst [.int 1, .int 2, .int 9, .int 20000000]) := upd_same
    have pl3 : l3 ≠ p := (ne_of_none hp8 nl3).symm
    generalize upd H8 l3 (.lst [.int 1, .int 2, .int 9, .int 20000000]) = H9 at g9 hp9 hl9 ⊢
    refine ⟨_, rfl, p, a6, b6, 4, rfl, hp9, ha6, hb6, by decide, by decide, fun f a7 b7 f0 f1 ha7 hb7 => ?_⟩
    have g10 := g9.set (o := PurseO a7 b7) fp (.inr rfl)
    have hp10 : (upd H9 p (PurseO a7 b7)) p = some (PurseO a7 b7) := upd_same
    have hl10 := (upd_ne (o := PurseO a7 b7) pl3).trans hl9
    generalize upd H9 p (PurseO a7 b7) = H10 at g10 hp10 hl10 ⊢
    obtain ⟨m, hm, m0, m1⟩ : ∃ m : Int, atI [V.int 1, V.int 2, V.int 9, V.int 20000000] f = some (.int m) ∧ 1 ≤ m ∧ m ≤ 20000000 := by
      have h : f = 0 ∨ f = 1 ∨ f = 2 ∨ f = 3 := by omega
      rcases h with rfl | rfl | rfl | rfl
      · exact ⟨1, rfl, by decide, by decide⟩
      · exact ⟨2, rfl, by decide, by decide⟩
      · exact ⟨9, rfl, by decide, by decide⟩
      · exact ⟨20000000, rfl, by decide, by decide⟩
    refine ⟨l3, _, _, _, rfl, rfl, SqL.of hl10, hm, ?_⟩
    refine ⟨nil_le, fun L nL => ?_⟩
    have g11 := g10.own (o := .lst []) nL
    have hp11 := ln (u := .lst []) nL hp10
    have w11 : Ow H F (upd H10 L (.lst [])) L (.lst []) := Ow.mk1 g10 nL
    have pL : L ≠ p := (ne_of_none hp10 nL).symm
    generalize upd H10 L (.lst []) = H11 at g11 hp11 w11 ⊢
    refine ⟨_, rfl, (n : Int), rfl, by omega, by omega, for_range (lo := 0) (n := ((n : Int)).toNat) (fun i σ G => ∃ (F2 : Hp) (xs : List V) (cs : List PI) (y a b : Int) (v5 : Option V), σ = [some (.ref p), some (.int n), some (.int y), some (.int m), some (.ref L), v5] ∧ Gr (muP p) F H F2 G ∧ G p = some (PurseO a b) ∧ 0 ≤ a ∧ 0 ≤ b ∧ Ow H F2 G L (.lst xs) ∧ IsAll F2 xs cs ∧ cs.length ≤ i ∧ -999999999 ≤ y ∧ (∀ c ∈ cs, c.a.natAbs < 1000000000 ∧ 1 ≤ c.b ∧ c.b ≤ 3 ∧ c.a < y) ∧ ∀ (k : Nat) (c d : PI), cs[k]? = some c → cs[k + 1]? = some d → c.a < d.a)
      ⟨F, [], [], y, a7, b7, none, rfl, g11, hp11, ha7, hb7, w11, All2.nil, Nat.le_refl _, hy0, (fun c z => nomatch z), (fun k c d z => nomatch z)⟩ ?_ ?_⟩
    · rintro i σ G hi ⟨F2, xs, cs, y, a, b, v5, rfl, g, hpG, ha, hb, w, al, hlen, hy0, hc, hup⟩
      refine ⟨_, rfl, _, _, rfl, rfl, ⟨by decide, by decide, by decide⟩, _, _, rfl, rfl, _, rfl, ite2 (fun c => ?A) (fun c => ?B)⟩
      case' A =>
        rw [e9] at c
        have c := of_decide_eq_true c
        refine ⟨_, rfl, .inl ⟨rfl, _, SqL.of w.h⟩, ?_⟩
        refine ⟨_, rfl, _, rfl, p, a, b, 3, rfl, hpG, ha, hb, by decide, by decide, fun z a1 b1 z0 z1 ha1 hb1 => ?_⟩
        have k1 := g.set (o := PurseO a1 b1) (g.pf fp hp) (.inr rfl)
        have w1 := w.other (u := PurseO a1 b1) pL
        have hp1 : (upd G p (PurseO a1 b1)) p = some (PurseO a1 b1) := upd_same
        generalize upd G p (PurseO a1 b1) = G1 at k1 w1 hp1 ⊢
        refine ⟨_, _, rfl, rfl, two_le, fun u nu => ?_⟩
        have k2 := k1.new (o := .tup [.int y, .int (1 + z)]) nu
        have w2 := w1.new (u := .tup [.int y, .int (1 + z)]) nu
        have hp2 := ln (u := .tup [.int y, .int (1 + z)]) nu hp1
        have hu : (upd F2 u (.tup [.int y, .int (1 + z)])) u = some (.tup [.int y, .int (1 + z)]) := upd_same
        have s2 : Same F2 (upd F2 u (.tup [.int y, .int (1 + z)])) := sm_up (k1.fh.free nu)
        dsimp only
        generalize upd G1 u (.tup [.int y, .int (1 + z)]) = G2 at k2 w2 hp2 ⊢
        generalize upd F2 u (.tup [.int y, .int (1 + z)]) = F3 at k2 w2 hu s2
        have lx : xs.length = cs.length := al.1
        refine ⟨L, _, _, rfl, rfl, w2.h, lt_size (by omega), ?_⟩
        have k3 := k2.set (o := .lst (xs ++ [.ref u])) w2.f (.inl w2.n)
        have w3 : Ow H F3 (upd G2 L (.lst (xs ++ [.ref u]))) L (.lst (xs ++ [.ref u])) := w2.set
        have hp3 := (upd_ne (o := .lst (xs ++ [.ref u])) pL.symm).trans hp2
        have al3 : IsAll F3 (xs ++ [.ref u]) (cs ++ [(⟨y, 1 + z⟩ : PI)]) := (al.up s2).app (All2.one ⟨u, _, _, rfl, hu, rfl, rfl⟩)
        generalize upd G2 L (.lst (xs ++ [.ref u])) = G3 at k3 w3 hp3 ⊢
        have hc3 : ∀ c ∈ cs ++ [(⟨y, 1 + z⟩ : PI)], c.a.natAbs < 1000000000 ∧ 1 ≤ c.b ∧ c.b ≤ 3 ∧ c.a < y + 1 := fun c mc => by
          rcases List.mem_append.mp mc with mc | mc
          · have := hc c mc; omega
          · rw [List.mem_singleton.mp mc]; dsimp only; omega
        have hup3 : ∀ (k : Nat) (c d : PI), (cs ++ [(⟨y, 1 + z⟩ : PI)])[k]? = some c → (cs ++ [(⟨y, 1 + z⟩ : PI)])[k + 1]? = some d → c.a < d.a := fun k c d h1 h2 => by
          have kl := (List.getElem?_eq_some_iff.mp h2).1
          rw [List.length_append, List.length_singleton] at kl
          rw [List.getElem?_append_left (by omega)] at h1
          by_cases kk : k + 1 < cs.length
          · rw [List.getElem?_append_left kk] at h2
            exact hup k c d h1 h2
          · rw [List.getElem?_append_right (by omega), show k + 1 - cs.length = 0 by omega] at h2
            have h2 : (⟨y, 1 + z⟩ : PI) = d := Option.some.inj h2
            rw [← h2]
            exact (hc c (List.mem_of_getElem? h1)).2.2.2
        have hlen3 : (cs ++ [(⟨y, 1 + z⟩ : PI)]).length ≤ i + 1 := by rw [List.length_append, List.length_singleton]; omega
        generalize xs ++ [V.ref u] = xs3 at w3 al3
        generalize cs ++ [(⟨y, 1 + z⟩ : PI)] = cs3 at al3 hc3 hup3 hlen3
      case' B =>
        obtain ⟨F3, xs3, cs3, a1, b1, k3, hp3, ha1, hb1, w3, al3, hlen3, hc3, hup3⟩ : ∃ (F3 : Hp) (xs3 : List V) (cs3 : List PI) (a1 b1 : Int), Gr (muP p) F H F3 G ∧ G p = some (PurseO a1 b1) ∧ 0 ≤ a1 ∧ 0 ≤ b1 ∧ Ow H F3 G L (.lst xs3) ∧ IsAll F3 xs3 cs3 ∧ cs3.length ≤ i + 1 ∧ (∀ c ∈ cs3, c.a.natAbs < 1000000000 ∧ 1 ≤ c.b ∧ c.b ≤ 3 ∧ c.a < y + 1) ∧ ∀ (k : Nat) (c d : PI), cs3[k]? = some c → cs3[k + 1]? = some d → c.a < d.a :=
          ⟨F2, xs, cs, a, b, g, hpG, ha, hb, w, al, by omega, fun c mc => by have := hc c mc; omega, hup⟩
      all_goals
        refine ⟨_, rfl, _, _, rfl, rfl, _, rfl, _, rfl, p, a1, b1, m, rfl, hp3, ha1, hb1, by omega, by omega, fun v a4 b4 v0 v1 ha4 hb4 => ?_⟩
        have k4 := k3.set (o := PurseO a4 b4) (k3.pf fp hp) (.inr rfl)
        exact ⟨_, _, rfl, rfl, F3, xs3, cs3, _, a4, b4, _, rfl, k4, upd_same, ha4, hb4, w3.other pL, al3, hlen3, by omega, fun c mc => by have := hc3 c mc; omega, hup3⟩
    · rintro σ G ⟨F2, xs, cs, y, a, b, v5, rfl, g, hpG, ha, hb, w, al, hlen, hy0, hc, hup⟩
      refine ⟨_, rfl, p, a, b, 4, rfl, hpG, ha, hb, by decide, by decide, fun r a1 b1 r0 r1 ha1 hb1 => ?_⟩
      have k1 := g.set (o := PurseO a1 b1) (g.pf fp hp) (.inr rfl)
      have w1 := w.other (u := PurseO a1 b1) pL
      have hp1 : (upd G p (PurseO a1 b1)) p = some (PurseO a1 b1) := upd_same
      generalize upd G p (PurseO a1 b1) = G1 at k1 w1 hp1 ⊢
      refine ⟨_, rfl, F2, p, a1, b1, rfl, k1.fh, g.pf fp hp, hp1, ha1, hb1, fun G2 j a2 b2 k2 hp2 ha2 hb2 hj => ?_⟩
      have w2 := w1.call k2 pL
      refine ⟨_, rfl, three_le, fun u nu => ?_⟩
      have k3 := (k1.trans k2).frz w2.h w2.n w2.f
      have k4 := k3.new (o := .tup [.int r, .int j, .ref L]) nu
      refine q _ _ (.ref u) ⟨r, j, cs⟩ a2 b2 k4 (ln nu hp2) ha2 hb2 ⟨u, _, _, _, rfl, upd_same, rfl, rfl, L, xs, rfl, ?_, ?_⟩ ⟨r0, r1, hj, fun c mc => by have := hc c mc; exact ⟨this.1, this.2.1, this.2.2.1⟩, by dsimp only; omega, hup⟩
      · have : L ≠ u := ne_of_none w2.h nu
        rw [upd_ne this, upd_same]
      · refine al.up fun c o h => ?_
        have n1 : c ≠ L := ne_of_none h w2.f
        have n2 : c ≠ u := ne_of_none (k2.fh _ _ h) nu
        rw [upd_ne n2, upd_ne n1]; exact h
theorem small_str {l : List Str} {k : Nat} (h : l.all (fun x => decide (x.length ≤ k)) = true) : ∀ x ∈ l, x.length ≤ k := fun x m => of_decide_eq_true (List.all_eq_true.mp h x m)
theorem log9 {i : Int} (h : i.natAbs < 2000000000) : i.natAbs.log2 < 1920 := log31 (by omega)
theorem len11 {i : Int} (h : i.natAbs < 2000000000) : (toString i : Str).length ≤ 11 := tl_len (k := 10) (by decide) (by show i.natAbs < 10000000000; omega)
def sp_law (K : PySem.W.Frag) : Sp := fun vs H Q _ => ∃ (a : Addr) (ns : List Int), vs = [.ref a] ∧ SqL K H a (ns.map V.int) ∧ ns.length ≤ 63 ∧ ∀ H', Q (.bl true) H'
theorem ok_law (t : Tx K mg) : FnOk P w K mg base CX0 8 t.a_law t.fd_law ["_law_script"] (sp_law K) := by
  refine t.F_law.ok sc_law (fun vs H Q E h => ?_) (fun cdv A outer s H vs Q E hr h => ?_)
  · obtain ⟨a, ns, rfl, _⟩ := h
    rfl
  · obtain ⟨a, ns, rfl, hS, hn, q⟩ := h
    refine ⟨_, (pss_cons (ps_set (i := 1) sc_law.nd rfl (by first | exact Or.inl rfl | exact Or.inr rfl) (pe_call (ok_L_purse t) (hr.mono (by decide)) (by rfl) t.m_L_purse t.F_L_purse.kp t.b_L_purse .nil pass0 (pa_cons (pv 0) pa_nil)))
      (pss_cons (ps_for PassesOwn.never rfl (pi_list (pe_lst (pa_cons pe_str (pa_cons pe_str (pa_cons pe_str (pa_cons pe_str (pa_cons pe_str (pa_cons pe_str (pa_cons pe_str (pa_cons pe_str (pa_cons pe_str (pa_cons pe_str (pa_cons pe_str (pa_cons pe_str (pa_cons pe_str pa_nil))))))))))))))) (pg_name (i := 2) sc_law.nd rfl (by first | exact Or.inl rfl | exact Or.inr rfl)) (pss_one (ps_if (pt_not (pt_val (pe_call (ok_L_right t) (hr.mono (by decide)) (by rfl) t.m_L_right t.F_L_right.kp t.b_L_right .nil pass0 (pa_cons (pv 2) pa_nil)))) (pss_one (ps_ret pe_bl)) pss_nil)))
      (pss_cons (ps_for PassesOwn.never rfl (pi_range1 (by rfl) t.n_range (pa_cons pe_int pa_nil)) (pg_name (i := 3) sc_law.nd rfl (by first | exact Or.inl rfl | exact Or.inr rfl)) (pss_cons (ps_set (i := 4) sc_law.nd rfl (by first | exact Or.inl rfl | exact Or.inr rfl) (pe_call (ok_L_setup t) (hr.mono (by decide)) (by rfl) t.m_L_setup t.F_L_setup.kp t.b_L_setup .nil pass0 (pa_cons (pv 1) pa_nil)))
      (pss_cons (ps_set (i := 2) sc_law.nd rfl (by first | exact Or.inl rfl | exact Or.inr rfl) (pe_call (ok_L_setup_text t) (hr.mono (by decide)) (by rfl) t.m_L_setup_text t.F_L_setup_text.kp t.b_L_setup_text .nil pass0 (pa_cons (pv 4) pa_nil)))
      (pss_cons (ps_if (pt_cmpR (op_neD hr.units) (pe_call (ok_L_setup_of t) (hr.mono (by decide)) (by rfl) t.m_L_setup_of t.F_L_setup_of.kp t.b_L_setup_of .nil pass0 (pa_cons (pv 2) pa_nil)) (pv 4) (nomark _)) (pss_one (ps_ret pe_bl)) pss_nil)
      (pss_cons (ps_set (i := 5) sc_law.nd rfl (by first | exact Or.inl rfl | exact Or.inr rfl) (pe_ix ix_list (pe_op op_cat (pe_lst (pa_cons (pe_ix ix_tup (pv 4) pe_int (fun _ _ => rfl)) pa_nil)) (pe_lc (own := [("_law_place_here", 6), ("_law_sign", 7)]) (tt := tYes) rfl sc_law.nd (pi_list (pe_ix ix_tup (pv 4) pe_int (fun _ _ => rfl))) (blkOk_by (N := N_law) (sc := defScope s_law) (by decide +kernel)) (fun _ _ _ _ _ => (pg_tupK (K := K) (n := 2) rfl rfl (pgs_cons (pg_name (i := 6) sc_law.nd rfl (by first | exact Or.inl rfl | exact Or.inr rfl)) (pgs_cons (pg_name (i := 7) sc_law.nd rfl (by first | exact Or.inl rfl | exact Or.inr rfl)) pgs_nil)))) (fun _ _ _ _ _ => pts_nil) (fun _ _ _ _ _ => (pv 6)))) (pe_un un_neg pe_int) (fun _ _ => rfl)))
      (pss_cons (ps_for PassesOwn.never rfl (pi_list (pe_lst (pa_cons (pe_op op_add_str (pe_op op_add_str pe_str (pe_callTy (T := "str") call_str_int (by rfl) t.n_str (by decide +kernel) (pa_cons (pe_op op_add (pv 5) pe_int) pa_nil))) pe_str) (pa_cons (pe_op op_add_str (pe_op op_add_str (pe_op op_add_str (pe_op op_add_str pe_str (pe_callTy (T := "str") call_str_int (by rfl) t.n_str (by decide +kernel) (pa_cons (pe_op op_add (pv 5) pe_int) pa_nil))) pe_str) (pe_callTy (T := "str") call_str_int (by rfl) t.n_str (by decide +kernel) (pa_cons (pe_op op_add (pv 5) pe_int) pa_nil))) pe_str) pa_nil)))) (pg_name (i := 8) sc_law.nd rfl (by first | exact Or.inl rfl | exact Or.inr rfl)) (pss_one (ps_if (PW.pt (pw_or (pt_not (pt_val (pe_call (ok_L_right t) (hr.mono (by decide)) (by rfl) t.m_L_right t.F_L_right.kp t.b_L_right .nil pass0 (pa_cons (pe_op op_add_str (pv 2) (pv 8)) pa_nil)))) (pw_or1 (pt_not (pt_val (pe_call (ok_L_right t) (hr.mono (by decide)) (by rfl) t.m_L_right t.F_L_right.kp t.b_L_right .nil pass0 (pa_cons (pe_call (ok_L_odd t) (hr.mono (by decide)) (by rfl) t.m_L_odd t.F_L_odd.kp t.b_L_odd .nil pass0 (pa_cons (pv 1) (pa_cons (pe_op op_add_str (pv 2) (pv 8)) pa_nil))) pa_nil))))))) (pss_one (ps_ret pe_bl)) pss_nil)))
      (pss_one (ps_for PassesOwn.never rfl (pi_range1 (by rfl) t.n_range (pa_cons pe_int pa_nil)) (pg_name (i := 9) sc_law.nd rfl (by first | exact Or.inl rfl | exact Or.inr rfl)) (pss_cons (ps_if (PW.pt (pw_or (pt_not (pt_val (pe_call (ok_L_right t) (hr.mono (by decide)) (by rfl) t.m_L_right t.F_L_right.kp t.b_L_right .nil pass0 (pa_cons (pv 2) pa_nil)))) (pw_or1 (pt_not (pt_val (pe_call (ok_L_right t) (hr.mono (by decide)) (by rfl) t.m_L_right t.F_L_right.kp t.b_L_right .nil pass0 (pa_cons (pe_call (ok_L_odd t) (hr.mono (by decide)) (by rfl) t.m_L_odd t.F_L_odd.kp t.b_L_odd .nil pass0 (pa_cons (pv 1) (pa_cons (pv 2) pa_nil))) pa_nil))))))) (pss_one (ps_ret pe_bl)) pss_nil)
      (pss_one (ps_set (i := 2) sc_law.nd rfl (by first | exact Or.inl rfl | exact Or.inr rfl) (pe_call (ok_L_bent_text t) (hr.mono (by decide)) (by rfl) t.m_L_bent_text t.F_L_bent_text.kp t.b_L_bent_text .nil pass0 (pa_cons (pv 1) (pa_cons (pv 2) (pa_cons pe_str pa_nil)))))))))))))))
      (pss_one (ps_ret pe_bl))))), ?_⟩
    refine ⟨_, rfl, a, ns, rfl, hS, hn, fun a0 b0 p H1 ha0 hb0 s1 np hp1 => ?_⟩
    have g1 : Gr (muP p) H H1 H H1 := Gr.refl s1
    refine ⟨le_size (n := 13) (by decide), fun l3 n3 => ?_⟩
    obtain ⟨ws, ews, hws⟩ : ∃ ws : List Str, ([V.str "", .str " ", .str "A", .str "A ", .str "A 0", .str "A  0", .str " A 0", .str "A 0 ", .str "A 0 0=1 0=1", .str "A 0 1=1 0=1", .str "E 0", .str "A -0", .str "a 0"] : List V) = ws.map V.str ∧ ∀ x ∈ ws, x.length ≤ 20 :=
      ⟨["", " ", "A", "A ", "A 0", "A  0", " A 0", "A 0 ", "A 0 0=1 0=1", "A 0 1=1 0=1", "E 0", "A -0", "a 0"], rfl, small_str (by decide +kernel)⟩
    rw [ews]
    have g4 := g1.new (o := .lst (ws.map V.str)) n3
    have hF : (upd H l3 (.lst (ws.map V.str))) l3 = _ := upd_same
    have hp4 := ln (u := .lst (ws.map V.str)) n3 hp1
    generalize upd H l3 (.lst (ws.map V.str)) = FA at g4 hF
    generalize upd H1 l3 (.lst (ws.map V.str)) = H4 at g4 hp4 ⊢
    refine ⟨l3, rfl, ⟨_, SqL.of (g4.fh _ _ hF)⟩, for_list (K := K) (a := l3) (xs := ws.map V.str) (fun i σ G => ∃ (F : Hp) (v2 : Option V), σ = [some (.ref a), some (.ref p), v2, none, none, none, none, none, none, none] ∧ Gr (muP p) H H1 F G ∧ Same FA F ∧ G p = some (PurseO a0 b0)) ⟨FA, none, rfl, g4, Same.refl FA, hp4⟩ (fun i σ G _ ⟨F, _, _, g, s, _⟩ => SqL.of (g.fh _ _ (s _ _ hF))) ?_ ?_⟩
    · rintro i y σ G hi ⟨F, v3, rfl, g, s, hpG⟩
      obtain ⟨x, hx, rfl⟩ : ∃ x, ws[i]? = some x ∧ V.str x = y := by
        rw [List.getElem?_map] at hi
        exact Option.map_eq_some_iff.mp hi
      have lx := hws x (List.mem_of_getElem? hx)
      refine ⟨_, rfl, F, x, rfl, g.fh, by omega, fun F' G' g' => ⟨_, rfl, ifF rfl ?_⟩⟩
      exact ⟨F', _, rfl, g.trans g'.of0, fun c o h => g'.ff _ _ (s _ _ h), g'.fr _ _ hpG (fun z => z)⟩
    rintro σ G ⟨F, v3, rfl, g, s, hpG⟩
    refine ⟨5, rfl, by decide, by decide, for_range (lo := 0) (n := 5) (fun i σ G => ∃ (F : Hp) (u z : Int) (v2 v3 v4 v5 v6 v7 v8 v9 : Option V), σ = [some (.ref a), some (.ref p), v2, v3, v4, v5, v6, v7, v8, v9] ∧ Gr (muP p) H H1 F G ∧ G p = some (PurseO u z) ∧ 0 ≤ u ∧ 0 ≤ z) ⟨F, a0, b0, _, _, _, _, _, _, _, _, rfl, g, hpG, ha0, hb0⟩ ?_ ?_⟩
    · rintro k σ GZ hk ⟨FZ0, uZ, zZ, v2, v3, v4, v5, v6, v7, v8, v9, rfl, gZ, hpZ, huZ, hzZ⟩
      refine ⟨_, rfl, FZ0, p, uZ, zZ, rfl, gZ.fh, gZ.pf np hp1, hpZ, huZ, hzZ, fun F2 H2 v x a1 b1' g2 hp2 ha1 hb1 hv hx => ?_⟩
      have t2 := gZ.trans g2
      refine ⟨_, rfl, F2, v, x, rfl, t2.fh, hv, hx.set, fun H3 k3 => ?_⟩
      have t3 := t2.trans k3.of0
      have hp3 := k3.fr _ _ hp2 (fun z => z)
      have lx := setT_len hx
      refine ⟨_, rfl, F2, setT x, rfl, t3.fh, by omega, fun F4 H4 w k4 hw => ⟨_, rfl, ?_⟩⟩
      rw [setupL_set hx] at hw
      have t4 := t3.trans k4.of0
      have hp4 := k4.fr _ _ hp3 (fun z => z)
      have hv4 : Is F4 v x := hv.up k4.ff
      refine ne_dat (a := x) (b := x) (Is.up (show Is F4 w x from hw) t4.fh) (Is.up hv4 t4.fh) ⟨_, rfl, ifF (by rw [decide_eq_true rfl]; rfl) ?_⟩
      generalize hT : setT x = T at lx ⊢
      obtain ⟨pt, x1, x2, x3, rfl, hpt, rfl, rfl, l, cs, rfl, hl, hcs⟩ := id hv4
      have hT4 := SqT.of (K := K) (t4.fh _ _ hpt)
      refine ⟨_, rfl, pt, _, _, _, rfl, rfl, hT4, atI_nat (j := 1) rfl, one_le, fun l1 n1 => ?_⟩
      have t5 := t4.own (o := .lst [.int x.b]) n1
      have hp5 := ln (u := .lst [.int x.b]) n1 hp4
      have hl1 : (upd H4 l1 (.lst [.int x.b])) l1 = some (.lst [.int x.b]) := upd_same
      generalize upd H4 l1 (.lst [.int x.b]) = H5 at t5 hp5 hl1 ⊢
      refine ⟨_, rfl, pt, _, _, _, rfl, rfl, SqT.of (t5.fh _ _ hpt), atI_nat (j := 2) rfl, l, rfl, ⟨_, SqL.of (t5.fh _ _ hl)⟩, fun D nD => lc_list (K := K) (a := l) (xs := cs) (fun i G => Gr (muP p) H H1 F4 G ∧ G p = some (PurseO a1 b1') ∧ G l1 = some (.lst [.int x.b]) ∧ (D ≠ p ∧ D ≠ l1 ∧ H1 D = none ∧ F4 D = none) ∧ G D = some (.lst (((x.c.take i).map (·.a)).map V.int))) ⟨t5.own nD, ln nD hp5, ln nD hl1, ⟨(ne_of_none hp5 nD).symm, (ne_of_none hl1 nD).symm, t5.th _ nD, t5.fh.free nD⟩, upd_same⟩ (fun i G _ p => SqL.of (p.1.fh _ _ hl)) ?_ ?_⟩
      · rintro i y G hi ⟨g, hpG, h1G, ⟨Dp, D1, Dn, Df⟩, hD⟩
        obtain ⟨c, hc, b, y1, y2, rfl, hb, rfl, rfl⟩ := hcs.get' hi
        have il := (List.getElem?_eq_some_iff.mp hc).1
        have n40 := hx.n
        refine ⟨b, _, rfl, SqT.of (g.fh _ _ hb), rfl, _, _, rfl, _, _, rfl, rfl, rfl, yes ⟨_, rfl, _, hD, by rw [List.length_map, List.length_map, List.length_take]; exact lt_size (by omega), ?_⟩⟩
        refine ⟨g.set Df (.inl Dn), (upd_ne Dp.symm).trans hpG, (upd_ne D1.symm).trans h1G, ⟨Dp, D1, Dn, Df⟩, ?_⟩
        rw [upd_same, mt1 (f := fun c : PI => c.a) hc, List.map_append]
        rfl
      · rintro G ⟨g, hpG, h1G, ⟨Dp, D1, Dn, Df⟩, hD⟩
        rw [hcs.1, List.take_length] at hD
        have n40 := hx.n
        refine ⟨l1, D, _, _, rfl, rfl, h1G, hD, by rw [List.length_map, List.length_map]; exact le_size (by show 1 + _ ≤ _; omega), fun l2 n2 => ?_⟩
        have g6 := g.own (o := .lst ([V.int x.b] ++ (x.c.map (·.a)).map V.int)) n2
        have hp6 := ln (u := .lst ([V.int x.b] ++ (x.c.map (·.a)).map V.int)) n2 hpG
        have hl2 : (upd G l2 (.lst ([V.int x.b] ++ (x.c.map (·.a)).map V.int))) l2 = some (.lst ((x.b :: x.c.map (·.a)).map V.int)) := upd_same
        generalize upd G l2 (.lst ([V.int x.b] ++ (x.c.map (·.a)).map V.int)) = G6 at g6 hp6 hl2 ⊢
        have hall : ∀ z ∈ x.b :: x.c.map (·.a), z.natAbs < 1000000000 := fun z m => by
          rcases List.mem_cons.mp m with rfl | m
          · exact hx.b
          · obtain ⟨c, mc, rfl⟩ := List.mem_map.mp m
            exact (hx.c c mc).1
        obtain ⟨z, hz, hz9⟩ : ∃ z : Int, ((x.b :: x.c.map (·.a)).map V.int)[x.c.length]? = some (.int z) ∧ z.natAbs < 1000000000 := by
          have k1 : x.c.length < (x.b :: x.c.map (·.a)).length := by rw [List.length_cons, List.length_map]; omega
          exact ⟨_, by rw [List.getElem?_map, List.getElem?_eq_getElem k1]; rfl, hall _ (List.getElem_mem k1)⟩
        refine ⟨_, rfl, l2, _, _, _, rfl, rfl, SqL.of hl2, at_end (k := x.c.length) (by rw [List.length_map, List.length_cons, List.length_map]) hz, ?_⟩
        have z1 : (z + 1).natAbs < 2000000000 := by omega
        have z7 : (z + 7).natAbs < 2000000000 := by omega
        have b1 : (" " : Str).length = 1 := blank_len
        have c1 : ("=1" : Str).length = 2 := by decide +kernel
        have c2 : ("=2 " : Str).length = 3 := by decide +kernel
        have c3 : ("=3" : Str).length = 2 := by decide +kernel
        have e1 := len11 z1
        have e7 := len11 z7
        refine ⟨_, rfl, _, _, rfl, rfl, _, rfl, log9 z1, _, _, rfl, rfl, by rw [b1]; exact le_size (by omega), _, _, rfl, rfl, by rw [str_len_app, b1, c1]; exact le_size (by omega), ?_⟩
        refine ⟨_, rfl, _, _, rfl, rfl, _, rfl, log9 z1, _, _, rfl, rfl, by rw [b1]; exact le_size (by omega), _, _, rfl, rfl, by rw [str_len_app, b1, c2]; exact le_size (by omega), ?_⟩
        refine ⟨_, rfl, _, _, rfl, rfl, _, rfl, log9 z7, _, _, rfl, rfl, by rw [str_len_app, str_len_app, b1, c2]; exact le_size (by omega), _, _, rfl, rfl, by rw [str_len_app, str_len_app, str_len_app, b1, c2, c3]; exact le_size (by omega), two_le, fun l5 n5 => ?_⟩
        have lm1 : (" " ++ (toString (z + 1) : Str) ++ "=1" : Str).length ≤ 40 := by rw [str_len_app, str_len_app, b1, c1]; omega
        have lm2 : (" " ++ (toString (z + 1) : Str) ++ "=2 " ++ (toString (z + 7) : Str) ++ "=3" : Str).length ≤ 40 := by rw [str_len_app, str_len_app, str_len_app, str_len_app, b1, c2, c3]; omega
        generalize (" " ++ (toString (z + 1) : Str) ++ "=1" : Str) = m1 at lm1 ⊢
        generalize (" " ++ (toString (z + 1) : Str) ++ "=2 " ++ (toString (z + 7) : Str) ++ "=3" : Str) = m2 at lm2 ⊢
        have g7 := g6.new (o := .lst [.str m1, .str m2]) n5
        have hF5 : (upd F4 l5 (.lst [.str m1, .str m2])) l5 = _ := upd_same
        have hp7 := ln (u := .lst [.str m1, .str m2]) n5 hp6
        generalize upd F4 l5 (.lst [.str m1, .str m2]) = FB at g7 hF5
        generalize upd G6 l5 (.lst [.str m1, .str m2]) = G7 at g7 hp7 ⊢
        refine ⟨l5, rfl, ⟨_, SqL.of (g7.fh _ _ hF5)⟩, for_list (K := K) (a := l5) (xs := [.str m1, .str m2]) (fun i σ G => ∃ (F : Hp) (u y : Int) (v6 v7 v8 : Option V), σ = [some (.ref a), some (.ref p), some (.str T), some (.int (0 + (k : Int))), some (.ref pt), some (.int z), v6, v7, v8, v9] ∧ Gr (muP p) H H1 F G ∧ Same FB F ∧ G p = some (PurseO u y) ∧ 0 ≤ u ∧ 0 ≤ y) ⟨FB, a1, b1', v6, v7, v8, rfl, g7, Same.refl FB, hp7, ha1, hb1⟩ (fun i σ G _ ⟨F, _, _, _, _, _, _, g, s, _⟩ => SqL.of (g.fh _ _ (s _ _ hF5))) ?_ ?_⟩
        · rintro i y σ G hi ⟨F, u, y', v6, v7, v8, rfl, g, s, hpG, hu, hy⟩
          obtain ⟨m, rfl, lm⟩ : ∃ m : Str, y = .str m ∧ m.length ≤ 40 := by
            match i, hi with
            | 0, hi => cases hi; exact ⟨m1, rfl, lm1⟩
            | 1, hi => cases hi; exact ⟨m2, rfl, lm2⟩
          have lTm : (T ++ m).length ≤ 700 := by rw [str_len_app]; omega
          have lTs : T.length + m.length ≤ sizeLine := le_size (by omega)
          refine ⟨_, rfl, _, rfl, _, _, rfl, rfl, lTs, F, T ++ m, rfl, g.fh, by omega, fun F6 H6 k6 => ⟨_, rfl, ifF rfl ?_⟩⟩
          have t6 := g.trans k6.of0
          have hp6 := k6.fr _ _ hpG (fun z => z)
          refine ⟨_, rfl, _, rfl, _, rfl, _, _, rfl, rfl, lTs, F6, p, u, y', T ++ m, rfl, t6.fh, t6.pf np hp1, hp6, hu, hy, by omega, fun H7 w a' b' g7 hp7 ha' hb' lw => ?_⟩
          have t7 := t6.trans g7
          refine ⟨F6, w, rfl, t7.fh, by omega, fun F8 H8 k8 => ⟨_, rfl, ifF rfl ?_⟩⟩
          exact ⟨F8, a', b', _, _, _, rfl, t7.trans k8.of0, fun c o h => k8.ff _ _ (k6.ff _ _ (s _ _ h)), k8.fr _ _ hp7 (fun z => z), ha', hb'⟩
        · rintro σ G ⟨F, u, y, v6, v7, v8, rfl, g, s, hpG, hu, hy⟩
          refine ⟨4, rfl, by decide, by decide, for_range (lo := 0) (n := 4) (fun i σ G => ∃ (F : Hp) (y : Str) (u z' : Int) (v9 : Option V), σ = [some (.ref a), some (.ref p), some (.str y), some (.int (0 + (k : Int))), some (.ref pt), some (.int z), v6, v7, v8, v9] ∧ Gr (muP p) H H1 F G ∧ G p = some (PurseO u z') ∧ 0 ≤ u ∧ 0 ≤ z' ∧ y.length + 2 ≤ 590 * 4 ^ i) ⟨F, T, u, y, _, rfl, g, hpG, hu, hy, by rw [Nat.pow_zero]; omega⟩ ?_ ?_⟩
          · rintro i σ G hi ⟨F, y, u, z', v9, rfl, g, hpG, hu, hz, hl⟩
            have p4 : 4 ^ i ≤ 4 ^ 3 := Nat.pow_le_pow_right (by decide) (by omega)
            have p4 : 4 ^ i ≤ 64 := p4
            refine ⟨_, rfl, F, y, rfl, g.fh, by omega, fun F6 H6 k6 => ⟨_, rfl, ifF rfl ?_⟩⟩
            have t6 := g.trans k6.of0
            have hp6 := k6.fr _ _ hpG (fun z => z)
            refine ⟨_, rfl, _, rfl, F6, p, u, z', y, rfl, t6.fh, t6.pf np hp1, hp6, hu, hz, by omega, fun H7 w a' b' g7 hp7 ha' hb' lw => ?_⟩
            have t7 := t6.trans g7
            refine ⟨F6, w, rfl, t7.fh, by omega, fun F8 H8 k8 => ⟨_, rfl, ifF rfl ?_⟩⟩
            have t8 := t7.trans k8.of0
            have hp8 := k8.fr _ _ hp7 (fun z => z)
            refine ⟨_, rfl, _, rfl, F8, p, a', b', y, _, rfl, t8.fh, t8.pf np hp1, hp8, ha', hb', by omega, by decide +kernel, by decide +kernel, fun H9 x' a2 b2 g9 hp9 ha2 hb2 hl' => ?_⟩
            exact ⟨F8, x', a2, b2, _, rfl, t8.trans g9, hp9, ha2, hb2, by rw [Nat.pow_succ]; omega⟩
          · rintro σ G ⟨F, y, u, z', v9, rfl, g, hpG, hu, hz, _⟩
            exact ⟨F, u, z', _, _, _, _, _, _, _, _, rfl, g, hpG, hu, hz⟩
    · rintro σ G ⟨F, u, z, v2, v3, v4, v5, v6, v7, v8, v9, rfl, g, _⟩
      exact q _

end
def all_tx {K : PySem.W.Frag} {h : Heap} {mg : Str → Option Value} {a_L_mixed a_L_purse a_L_draw a_L_place a_L_setup a_L_setup_text a_L_whole a_L_setup_of a_must a_read_place a_read_sign a_read_setup a_L_read a_L_same a_L_word a_L_right a_L_bent_text a_L_odd a_law C_NoText C_MillError C_NoMachine C_NoName C_Twice C_Full C_NoSuch C_NoPaper C_NoDeed C_NoSize : Addr} {od_L_mixed an_L_mixed od_L_purse an_L_purse od_L_draw an_L_draw od_L_place an_L_place od_L_setup an_L_setup od_L_setup_text an_L_setup_text od_L_whole an_L_whole od_L_setup_of an_L_setup_of od_must an_must od_read_place an_read_place od_read_sign an_read_sign od_read_setup an_read_setup od_L_read an_L_read od_L_same an_L_same od_L_word an_L_word od_L_right an_L_right od_L_bent_text an_L_bent_text od_L_odd an_L_odd od_law an_law : Option Addr} {sl_L_mixed sl_L_purse sl_L_draw sl_L_place sl_L_setup sl_L_setup_text sl_L_whole sl_L_setup_of sl_must sl_read_place sl_read_sign sl_read_setup sl_L_read sl_L_same sl_L_word sl_L_right sl_L_bent_text sl_L_odd sl_law : Array (Option Value)} {oc_L_mixed kV_L_mixed dc_L_mixed pm_L_mixed cd_L_mixed ct_L_mixed oc_L_purse kV_L_purse dc_L_purse pm_L_purse cd_L_purse ct_L_purse oc_L_draw kV_L_draw dc_L_draw pm_L_draw cd_L_draw ct_L_draw oc_L_place kV_L_place dc_L_place pm_L_place cd_L_place ct_L_place oc_L_setup kV_L_setup dc_L_setup pm_L_setup cd_L_setup ct_L_setup oc_L_setup_text kV_L_setup_text dc_L_setup_text pm_L_setup_text cd_L_setup_text ct_L_setup_text oc_L_whole kV_L_whole dc_L_whole pm_L_whole cd_L_whole ct_L_whole oc_L_setup_of kV_L_setup_of dc_L_setup_of pm_L_setup_of cd_L_setup_of ct_L_setup_of oc_must kV_must dc_must pm_must cd_must ct_must oc_read_place kV_read_place dc_read_place pm_read_place cd_read_place ct_read_place oc_read_sign kV_read_sign dc_read_sign pm_read_sign cd_read_sign ct_read_sign oc_read_setup kV_read_setup dc_read_setup pm_read_setup cd_read_setup ct_read_setup oc_L_read kV_L_read dc_L_read pm_L_read cd_L_read ct_L_read oc_L_same kV_L_same dc_L_same pm_L_same cd_L_same ct_L_same oc_L_word kV_L_word dc_L_word pm_L_word cd_L_word ct_L_word oc_L_right kV_L_right dc_L_right pm_L_right cd_L_right ct_L_right oc_L_bent_text kV_L_bent_text dc_L_bent_text pm_L_bent_text cd_L_bent_text ct_L_bent_text oc_L_odd kV_L_odd dc_L_odd pm_L_odd cd_L_odd ct_L_odd oc_law kV_law dc_law pm_law cd_law ct_law : Value} {tk_FIGURES tk_ROWS : Tok} (X : K.In h) (G : h.Ns mainGlobals mg)
    (n_NoText : PySem.W.nsIn K mainGlobals "NoText" = some (some (.ref C_NoText)))
    (n_MillError : PySem.W.nsIn K mainGlobals "MillError" = some (some (.ref C_MillError)))
    (n_NoMachine : PySem.W.nsIn K mainGlobals "NoMachine" = some (some (.ref C_NoMachine)))
    (n_NoName : PySem.W.nsIn K mainGlobals "NoName" = some (some (.ref C_NoName)))
    (n_Twice : PySem.W.nsIn K mainGlobals "Twice" = some (some (.ref C_Twice)))
    (n_Full : PySem.W.nsIn K mainGlobals "Full" = some (some (.ref C_Full)))
    (n_NoSuch : PySem.W.nsIn K mainGlobals "NoSuch" = some (some (.ref C_NoSuch)))
    (n_NoPaper : PySem.W.nsIn K mainGlobals "NoPaper" = some (some (.ref C_NoPaper)))
    (n_NoDeed : PySem.W.nsIn K mainGlobals "NoDeed" = some (some (.ref C_NoDeed)))
    (n_NoSize : PySem.W.nsIn K mainGlobals "NoSize" = some (some (.ref C_NoSize)))
    (n_L_mixed : PySem.W.nsIn K mainGlobals "_law_mixed" = some (some (.ref a_L_mixed)))
    (l_L_mixed : K.lookup a_L_mixed = some ⟨oc_L_mixed, od_L_mixed, .func (PySem.W.fnOf "_law_mixed" "_law_mixed" (defArgs s_L_mixed) (defBody s_L_mixed) (defScope s_L_mixed) .none kV_L_mixed dc_L_mixed pm_L_mixed an_L_mixed cd_L_mixed ct_L_mixed), sl_L_mixed⟩)
    (c_L_mixed : PySem.W.codeIn K cd_L_mixed "_law_mixed" = true)
    (k_L_mixed : PySem.W.keepIn K (.ref a_L_mixed) = true)
    (n_L_purse : PySem.W.nsIn K mainGlobals "_law_purse" = some (some (.ref a_L_purse)))
    (l_L_purse : K.lookup a_L_purse = some ⟨oc_L_purse, od_L_purse, .func (PySem.W.fnOf "_law_purse" "_law_purse" (defArgs s_L_purse) (defBody s_L_purse) (defScope s_L_purse) .none kV_L_purse dc_L_purse pm_L_purse an_L_purse cd_L_purse ct_L_purse), sl_L_purse⟩)
    (c_L_purse : PySem.W.codeIn K cd_L_purse "_law_purse" = true)
    (k_L_purse : PySem.W.keepIn K (.ref a_L_purse) = true)
    (n_L_draw : PySem.W.nsIn K mainGlobals "_law_draw" = some (some (.ref a_L_draw)))
    (l_L_draw : K.lookup a_L_draw = some ⟨oc_L_draw, od_L_draw, .func (PySem.W.fnOf "_law_draw" "_law_draw" (defArgs s_L_draw) (defBody s_L_draw) (defScope s_L_draw) .none kV_L_draw dc_L_draw pm_L_draw an_L_draw cd_L_draw ct_L_draw), sl_L_draw⟩)
    (c_L_draw : PySem.W.codeIn K cd_L_draw "_law_draw" = true)
    (k_L_draw : PySem.W.keepIn K (.ref a_L_draw) = true)
    (n_L_place : PySem.W.nsIn K mainGlobals "_law_place" = some (some (.ref a_L_place)))
    (l_L_place : K.lookup a_L_place = some ⟨oc_L_place, od_L_place, .func (PySem.W.fnOf "_law_place" "_law_place" (defArgs s_L_place) (defBody s_L_place) (defScope s_L_place) .none kV_L_place dc_L_place pm_L_place an_L_place cd_L_place ct_L_place), sl_L_place⟩)
    (c_L_place : PySem.W.codeIn K cd_L_place "_law_place" = true)
    (k_L_place : PySem.W.keepIn K (.ref a_L_place) = true)
    (n_L_setup : PySem.W.nsIn K mainGlobals "_law_setup" = some (some (.ref a_L_setup)))
    (l_L_setup : K.lookup a_L_setup = some ⟨oc_L_setup, od_L_setup, .func (PySem.W.fnOf "_law_setup" "_law_setup" (defArgs s_L_setup) (defBody s_L_setup) (defScope s_L_setup) .none kV_L_setup dc_L_setup pm_L_setup an_L_setup cd_L_setup ct_L_setup), sl_L_setup⟩)
    (c_L_setup : PySem.W.codeIn K cd_L_setup "_law_setup" = true)
    (k_L_setup : PySem.W.keepIn K (.ref a_L_setup) = true)
    (n_L_setup_text : PySem.W.nsIn K mainGlobals "_law_setup_text" = some (some (.ref a_L_setup_text)))
    (l_L_setup_text : K.lookup a_L_setup_text = some ⟨oc_L_setup_text, od_L_setup_text, .func (PySem.W.fnOf "_law_setup_text" "_law_setup_text" (defArgs s_L_setup_text) (defBody s_L_setup_text) (defScope s_L_setup_text) .none kV_L_setup_text dc_L_setup_text pm_L_setup_text an_L_setup_text cd_L_setup_text ct_L_setup_text), sl_L_setup_text⟩)
    (c_L_setup_text : PySem.W.codeIn K cd_L_setup_text "_law_setup_text" = true)
    (k_L_setup_text : PySem.W.keepIn K (.ref a_L_setup_text) = true)
    (n_L_whole : PySem.W.nsIn K mainGlobals "_law_whole" = some (some (.ref a_L_whole)))
    (l_L_whole : K.lookup a_L_whole = some ⟨oc_L_whole, od_L_whole, .func (PySem.W.fnOf "_law_whole" "_law_whole" (defArgs s_L_whole) (defBody s_L_whole) (defScope s_L_whole) .none kV_L_whole dc_L_whole pm_L_whole an_L_whole cd_L_whole ct_L_whole), sl_L_whole⟩)
    (c_L_whole : PySem.W.codeIn K cd_L_whole "_law_whole" = true)
    (k_L_whole : PySem.W.keepIn K (.ref a_L_whole) = true)
    (n_L_setup_of : PySem.W.nsIn K mainGlobals "_law_setup_of" = some (some (.ref a_L_setup_of)))
    (l_L_setup_of : K.lookup a_L_setup_of = some ⟨oc_L_setup_of, od_L_setup_of, .func (PySem.W.fnOf "_law_setup_of" "_law_setup_of" (defArgs s_L_setup_of) (defBody s_L_setup_of) (defScope s_L_setup_of) .none kV_L_setup_of dc_L_setup_of pm_L_setup_of an_L_setup_of cd_L_setup_of ct_L_setup_of), sl_L_setup_of⟩)
    (c_L_setup_of : PySem.W.codeIn K cd_L_setup_of "_law_setup_of" = true)
    (k_L_setup_of : PySem.W.keepIn K (.ref a_L_setup_of) = true)
    (n_must : PySem.W.nsIn K mainGlobals "must" = some (some (.ref a_must)))
    (l_must : K.lookup a_must = some ⟨oc_must, od_must, .func (PySem.W.fnOf "must" "must" (defArgs s_must) (defBody s_must) (defScope s_must) .none kV_must dc_must pm_must an_must cd_must ct_must), sl_must⟩)
    (c_must : PySem.W.codeIn K cd_must "must" = true)
    (k_must : PySem.W.keepIn K (.ref a_must) = true)
    (n_read_place : PySem.W.nsIn K mainGlobals "read_place" = some (some (.ref a_read_place)))
    (l_read_place : K.lookup a_read_place = some ⟨oc_read_place, od_read_place, .func (PySem.W.fnOf "read_place" "read_place" (defArgs s_read_place) (defBody s_read_place) (defScope s_read_place) .none kV_read_place dc_read_place pm_read_place an_read_place cd_read_place ct_read_place), sl_read_place⟩)
    (c_read_place : PySem.W.codeIn K cd_read_place "read_place" = true)
    (k_read_place : PySem.W.keepIn K (.ref a_read_place) = true)
    (n_read_sign : PySem.W.nsIn K mainGlobals "read_sign" = some (some (.ref a_read_sign)))
    (l_read_sign : K.lookup a_read_sign = some ⟨oc_read_sign, od_read_sign, .func (PySem.W.fnOf "read_sign" "read_sign" (defArgs s_read_sign) (defBody s_read_sign) (defScope s_read_sign) .none kV_read_sign dc_read_sign pm_read_sign an_read_sign cd_read_sign ct_read_sign), sl_read_sign⟩)
    (c_read_sign : PySem.W.codeIn K cd_read_sign "read_sign" = true)
    (k_read_sign : PySem.W.keepIn K (.ref a_read_sign) = true)
    (n_read_setup : PySem.W.nsIn K mainGlobals "read_setup" = some (some (.ref a_read_setup)))
    (l_read_setup : K.lookup a_read_setup = some ⟨oc_read_setup, od_read_setup, .func (PySem.W.fnOf "read_setup" "read_setup" (defArgs s_read_setup) (defBody s_read_setup) (defScope s_read_setup) .none kV_read_setup dc_read_setup pm_read_setup an_read_setup cd_read_setup ct_read_setup), sl_read_setup⟩)
    (c_read_setup : PySem.W.codeIn K cd_read_setup "read_setup" = true)
    (k_read_setup : PySem.W.keepIn K (.ref a_read_setup) = true)
    (n_L_read : PySem.W.nsIn K mainGlobals "_law_read" = some (some (.ref a_L_read)))
    (l_L_read : K.lookup a_L_read = some ⟨oc_L_read, od_L_read, .func (PySem.W.fnOf "_law_read" "_law_read" (defArgs s_L_read) (defBody s_L_read) (defScope s_L_read) .none kV_L_read dc_L_read pm_L_read an_L_read cd_L_read ct_L_read), sl_L_read⟩)
    (c_L_read : PySem.W.codeIn K cd_L_read "_law_read" = true)
    (k_L_read : PySem.W.keepIn K (.ref a_L_read) = true)
    (n_L_same : PySem.W.nsIn K mainGlobals "_law_same" = some (some (.ref a_L_same)))
    (l_L_same : K.lookup a_L_same = some ⟨oc_L_same, od_L_same, .func (PySem.W.fnOf "_law_same" "_law_same" (defArgs s_L_same) (defBody s_L_same) (defScope s_L_same) .none kV_L_same dc_L_same pm_L_same an_L_same cd_L_same ct_L_same), sl_L_same⟩)
    (c_L_same : PySem.W.codeIn K cd_L_same "_law_same" = true)
    (k_L_same : PySem.W.keepIn K (.ref a_L_same) = true)
    (n_L_word : PySem.W.nsIn K mainGlobals "_law_word" = some (some (.ref a_L_word)))
    (l_L_word : K.lookup a_L_word = some ⟨oc_L_word, od_L_word, .func (PySem.W.fnOf "_law_word" "_law_word" (defArgs s_L_word) (defBody s_L_word) (defScope s_L_word) .none kV_L_word dc_L_word pm_L_word an_L_word cd_L_word ct_L_word), sl_L_word⟩)
    (c_L_word : PySem.W.codeIn K cd_L_word "_law_word" = true)
    (k_L_word : PySem.W.keepIn K (.ref a_L_word) = true)
    (n_L_right : PySem.W.nsIn K mainGlobals "_law_right" = some (some (.ref a_L_right)))
    (l_L_right : K.lookup a_L_right = some ⟨oc_L_right, od_L_right, .func (PySem.W.fnOf "_law_right" "_law_right" (defArgs s_L_right) (defBody s_L_right) (defScope s_L_right) .none kV_L_right dc_L_right pm_L_right an_L_right cd_L_right ct_L_right), sl_L_right⟩)
    (c_L_right : PySem.W.codeIn K cd_L_right "_law_right" = true)
    (k_L_right : PySem.W.keepIn K (.ref a_L_right) = true)
    (n_L_bent_text : PySem.W.nsIn K mainGlobals "_law_bent_text" = some (some (.ref a_L_bent_text)))
    (l_L_bent_text : K.lookup a_L_bent_text = some ⟨oc_L_bent_text, od_L_bent_text, .func (PySem.W.fnOf "_law_bent_text" "_law_bent_text" (defArgs s_L_bent_text) (defBody s_L_bent_text) (defScope s_L_bent_text) .none kV_L_bent_text dc_L_bent_text pm_L_bent_text an_L_bent_text cd_L_bent_text ct_L_bent_text), sl_L_bent_text⟩)
    (c_L_bent_text : PySem.W.codeIn K cd_L_bent_text "_law_bent_text" = true)
    (k_L_bent_text : PySem.W.keepIn K (.ref a_L_bent_text) = true)
    (n_L_odd : PySem.W.nsIn K mainGlobals "_law_odd" = some (some (.ref a_L_odd)))
    (l_L_odd : K.lookup a_L_odd = some ⟨oc_L_odd, od_L_odd, .func (PySem.W.fnOf "_law_odd" "_law_odd" (defArgs s_L_odd) (defBody s_L_odd) (defScope s_L_odd) .none kV_L_odd dc_L_odd pm_L_odd an_L_odd cd_L_odd ct_L_odd), sl_L_odd⟩)
    (c_L_odd : PySem.W.codeIn K cd_L_odd "_law_odd" = true)
    (k_L_odd : PySem.W.keepIn K (.ref a_L_odd) = true)
    (n_law : PySem.W.nsIn K mainGlobals "law" = some (some (.ref a_law)))
    (l_law : K.lookup a_law = some ⟨oc_law, od_law, .func (PySem.W.fnOf "law" "law" (defArgs s_law) (defBody s_law) (defScope s_law) .none kV_law dc_law pm_law an_law cd_law ct_law), sl_law⟩)
    (c_law : PySem.W.codeIn K cd_law "law" = true)
    (k_law : PySem.W.keepIn K (.ref a_law) = true)
    (n_FIGURES : PySem.W.nsIn K mainGlobals "FIGURES" = some (some (.str "0123456789" tk_FIGURES)))
    (n_ROWS : PySem.W.nsIn K mainGlobals "ROWS" = some (some (.str "ABCD" tk_ROWS)))
    (z_range : PySem.W.nsIn K mainGlobals "range" = some none)
    (z_len : PySem.W.nsIn K mainGlobals "len" = some none)
    (z_abs : PySem.W.nsIn K mainGlobals "abs" = some none)
    (z_str : PySem.W.nsIn K mainGlobals "str" = some none)
    (z_int : PySem.W.nsIn K mainGlobals "int" = some none)
    (z_all : PySem.W.nsIn K mainGlobals "all" = some none)
    (z_isinstance : PySem.W.nsIn K mainGlobals "isinstance" = some none)
    (z_tuple : PySem.W.nsIn K mainGlobals "tuple" = some none)
    (z_list : PySem.W.nsIn K mainGlobals "list" = some none)
    (z_bool : PySem.W.nsIn K mainGlobals "bool" = some none)
    (z_ValueError : PySem.W.nsIn K mainGlobals "ValueError" = some none)
    (fa_x_NoText : PySem.W.excIn K C_NoText [.type "ValueError", .type "Exception", .type "BaseException", .type "object"] "ValueError.__new__" = true)
    (fa_k_NoText : PySem.W.keepIn K (.ref C_NoText) = true)
    (fa_b_NoText : PySem.W.subIn K (.ref C_NoText) (.type "BaseException") = some true)
    (fa_t_NoText : PySem.W.typeIn K (.ref C_NoText) = some (.type "type"))
    (fa_h_NoText : PySem.W.hasDictIn K C_NoText = true)
    (fa_k_MillError : PySem.W.keepIn K (.ref C_MillError) = true)
    (fa_b_MillError : PySem.W.subIn K (.ref C_MillError) (.type "BaseException") = some true)
    (fa_t_MillError : PySem.W.typeIn K (.ref C_MillError) = some (.type "type"))
    (fa_h_MillError : PySem.W.hasDictIn K C_MillError = true)
    (fa_hg_NoText : PySem.W.findIn K (.ref C_NoText) "__getattribute__" = some (some (.builtin "BaseException.__getattribute__")))
    (fa_hk_NoText : PySem.W.findIn K (.ref C_NoText) "__getattr__" = some none)
    (fa_ha_NoText : PySem.W.findIn K (.ref C_NoText) "__class__" = some (some (.builtin "object.__class__")))
    (fa_hm_NoText : PySem.W.mroIn K C_NoText (.type "object") = some true)
    (fa_s_NoText_MillError : PySem.W.subIn K (.ref C_NoText) (.ref C_MillError) = some true)
    (fa_hn_ : PySem.W.specialIn K (.builtin "object.__class__") "__get__" = some (some (.builtin "getset_descriptor.__get__")))
    (fa_ht_ : PySem.W.takesIn K (.builtin "object.__class__") = some true)
    (fa_i_NoMachine : PySem.W.isClsIn K C_NoMachine = true)
    (fa_se_NoMachine : PySem.W.subIn K (.ref C_NoMachine) (.ref C_NoMachine) = some true)
    (fa_t_NoMachine : PySem.W.typeIn K (.ref C_NoMachine) = some (.type "type"))
    (fa_s_NoText_NoMachine : PySem.W.subIn K (.ref C_NoText) (.ref C_NoMachine) = some false)
    (fa_sn_NoMachine : PySem.W.subIn K (.type "NoneType") (.ref C_NoMachine) = some false)
    (fa_i_NoText : PySem.W.isClsIn K C_NoText = true)
    (fa_se_NoText : PySem.W.subIn K (.ref C_NoText) (.ref C_NoText) = some true)
    (fa_s_NoText_NoText : PySem.W.subIn K (.ref C_NoText) (.ref C_NoText) = some true)
    (fa_sn_NoText : PySem.W.subIn K (.type "NoneType") (.ref C_NoText) = some false)
    (fa_i_NoName : PySem.W.isClsIn K C_NoName = true)
    (fa_se_NoName : PySem.W.subIn K (.ref C_NoName) (.ref C_NoName) = some true)
    (fa_t_NoName : PySem.W.typeIn K (.ref C_NoName) = some (.type "type"))
    (fa_s_NoText_NoName : PySem.W.subIn K (.ref C_NoText) (.ref C_NoName) = some false)
    (fa_sn_NoName : PySem.W.subIn K (.type "NoneType") (.ref C_NoName) = some false)
    (fa_i_Twice : PySem.W.isClsIn K C_Twice = true)
    (fa_se_Twice : PySem.W.subIn K (.ref C_Twice) (.ref C_Twice) = some true)
    (fa_t_Twice : PySem.W.typeIn K (.ref C_Twice) = some (.type "type"))
    (fa_s_NoText_Twice : PySem.W.subIn K (.ref C_NoText) (.ref C_Twice) = some false)
    (fa_sn_Twice : PySem.W.subIn K (.type "NoneType") (.ref C_Twice) = some false)
    (fa_i_Full : PySem.W.isClsIn K C_Full = true)
    (fa_se_Full : PySem.W.subIn K (.ref C_Full) (.ref C_Full) = some true)
    (fa_t_Full : PySem.W.typeIn K (.ref C_Full) = some (.type "type"))
    (fa_s_NoText_Full : PySem.W.subIn K (.ref C_NoText) (.ref C_Full) = some false)
    (fa_sn_Full : PySem.W.subIn K (.type "NoneType") (.ref C_Full) = some false)
    (fa_i_NoSuch : PySem.W.isClsIn K C_NoSuch = true)
    (fa_se_NoSuch : PySem.W.subIn K (.ref C_NoSuch) (.ref C_NoSuch) = some true)
    (fa_t_NoSuch : PySem.W.typeIn K (.ref C_NoSuch) = some (.type "type"))
    (fa_s_NoText_NoSuch : PySem.W.subIn K (.ref C_NoText) (.ref C_NoSuch) = some false)
    (fa_sn_NoSuch : PySem.W.subIn K (.type "NoneType") (.ref C_NoSuch) = some false)
    (fa_i_NoPaper : PySem.W.isClsIn K C_NoPaper = true)
    (fa_se_NoPaper : PySem.W.subIn K (.ref C_NoPaper) (.ref C_NoPaper) = some true)
    (fa_t_NoPaper : PySem.W.typeIn K (.ref C_NoPaper) = some (.type "type"))
    (fa_s_NoText_NoPaper : PySem.W.subIn K (.ref C_NoText) (.ref C_NoPaper) = some false)
    (fa_sn_NoPaper : PySem.W.subIn K (.type "NoneType") (.ref C_NoPaper) = some false)
    (fa_i_NoDeed : PySem.W.isClsIn K C_NoDeed = true)
    (fa_se_NoDeed : PySem.W.subIn K (.ref C_NoDeed) (.ref C_NoDeed) = some true)
    (fa_t_NoDeed : PySem.W.typeIn K (.ref C_NoDeed) = some (.type "type"))
    (fa_s_NoText_NoDeed : PySem.W.subIn K (.ref C_NoText) (.ref C_NoDeed) = some false)
    (fa_sn_NoDeed : PySem.W.subIn K (.type "NoneType") (.ref C_NoDeed) = some false)
    (fa_i_NoSize : PySem.W.isClsIn K C_NoSize = true)
    (fa_se_NoSize : PySem.W.subIn K (.ref C_NoSize) (.ref C_NoSize) = some true)
    (fa_t_NoSize : PySem.W.typeIn K (.ref C_NoSize) = some (.type "type"))
    (fa_s_NoText_NoSize : PySem.W.subIn K (.ref C_NoText) (.ref C_NoSize) = some false)
    (fa_sn_NoSize : PySem.W.subIn K (.type "NoneType") (.ref C_NoSize) = some false)
    (fa_i_MillError : PySem.W.isClsIn K C_MillError = true)
    (fa_se_MillError : PySem.W.subIn K (.ref C_MillError) (.ref C_MillError) = some true)
    (fa_sn_MillError : PySem.W.subIn K (.type "NoneType") (.ref C_MillError) = some false)
    (fa_s_NoText_ValueError : PySem.W.subIn K (.ref C_NoText) (.type "ValueError") = some true) : Tx K mg where
  a_L_mixed := a_L_mixed
  fd_L_mixed := PySem.W.fnOf "_law_mixed" "_law_mixed" (defArgs s_L_mixed) (defBody s_L_mixed) (defScope s_L_mixed) .none kV_L_mixed dc_L_mixed pm_L_mixed an_L_mixed cd_L_mixed ct_L_mixed
  F_L_mixed := fun_mk l_L_mixed c_L_mixed k_L_mixed
  b_L_mixed := (fun_mk (st := s_L_mixed) l_L_mixed c_L_mixed k_L_mixed).binds (ps := ["_law_cell", "_law_k"]) fun _ _ _ _ _ _ us hl => match us, hl with | [_, _], _ => rfl
  m_L_mixed := PySem.W.mg_of X G n_L_mixed
  a_L_purse := a_L_purse
  fd_L_purse := PySem.W.fnOf "_law_purse" "_law_purse" (defArgs s_L_purse) (defBody s_L_purse) (defScope s_L_purse) .none kV_L_purse dc_L_purse pm_L_purse an_L_purse cd_L_purse ct_L_purse
  F_L_purse := fun_mk l_L_purse c_L_purse k_L_purse
  b_L_purse := (fun_mk (st := s_L_purse) l_L_purse c_L_purse k_L_purse).binds (ps := ["_law_script"]) fun _ _ _ _ _ _ us hl => match us, hl with | [_], _ => rfl
  m_L_purse := PySem.W.mg_of X G n_L_purse
  a_L_draw := a_L_draw
  fd_L_draw := PySem.W.fnOf "_law_draw" "_law_draw" (defArgs s_L_draw) (defBody s_L_draw) (defScope s_L_draw) .none kV_L_draw dc_L_draw pm_L_draw an_L_draw cd_L_draw ct_L_draw
  F_L_draw := fun_mk l_L_draw c_L_draw k_L_draw
  b_L_draw := (fun_mk (st := s_L_draw) l_L_draw c_L_draw k_L_draw).binds (ps := ["_law_purse_here", "_law_out_of"]) fun _ _ _ _ _ _ us hl => match us, hl with | [_, _], _ => rfl
  m_L_draw := PySem.W.mg_of X G n_L_draw
  a_L_place := a_L_place
  fd_L_place := PySem.W.fnOf "_law_place" "_law_place" (defArgs s_L_place) (defBody s_L_place) (defScope s_L_place) .none kV_L_place dc_L_place pm_L_place an_L_place cd_L_place ct_L_place
  F_L_place := fun_mk l_L_place c_L_place k_L_place
  b_L_place := (fun_mk (st := s_L_place) l_L_place c_L_place k_L_place).binds (ps := ["_law_purse_here"]) fun _ _ _ _ _ _ us hl => match us, hl with | [_], _ => rfl
  m_L_place := PySem.W.mg_of X G n_L_place
  a_L_setup := a_L_setup
  fd_L_setup := PySem.W.fnOf "_law_setup" "_law_setup" (defArgs s_L_setup) (defBody s_L_setup) (defScope s_L_setup) .none kV_L_setup dc_L_setup pm_L_setup an_L_setup cd_L_setup ct_L_setup
  F_L_setup := fun_mk l_L_setup c_L_setup k_L_setup
  b_L_setup := (fun_mk (st := s_L_setup) l_L_setup c_L_setup k_L_setup).binds (ps := ["_law_purse_here"]) fun _ _ _ _ _ _ us hl => match us, hl with | [_], _ => rfl
  m_L_setup := PySem.W.mg_of X G n_L_setup
  a_L_setup_text := a_L_setup_text
  fd_L_setup_text := PySem.W.fnOf "_law_setup_text" "_law_setup_text" (defArgs s_L_setup_text) (defBody s_L_setup_text) (defScope s_L_setup_text) .none kV_L_setup_text dc_L_setup_text pm_L_setup_text an_L_setup_text cd_L_setup_text ct_L_setup_text
  F_L_setup_text := fun_mk l_L_setup_text c_L_setup_text k_L_setup_text
  b_L_setup_text := (fun_mk (st := s_L_setup_text) l_L_setup_text c_L_setup_text k_L_setup_text).binds (ps := ["_law_setup_here"]) fun _ _ _ _ _ _ us hl => match us, hl with | [_], _ => rfl
  m_L_setup_text := PySem.W.mg_of X G n_L_setup_text
  a_L_whole := a_L_whole
  fd_L_whole := PySem.W.fnOf "_law_whole" "_law_whole" (defArgs s_L_whole) (defBody s_L_whole) (defScope s_L_whole) .none kV_L_whole dc_L_whole pm_L_whole an_L_whole cd_L_whole ct_L_whole
  F_L_whole := fun_mk l_L_whole c_L_whole k_L_whole
  b_L_whole := (fun_mk (st := s_L_whole) l_L_whole c_L_whole k_L_whole).binds (ps := ["_law_text"]) fun _ _ _ _ _ _ us hl => match us, hl with | [_], _ => rfl
  m_L_whole := PySem.W.mg_of X G n_L_whole
  a_L_setup_of := a_L_setup_of
  fd_L_setup_of := PySem.W.fnOf "_law_setup_of" "_law_setup_of" (defArgs s_L_setup_of) (defBody s_L_setup_of) (defScope s_L_setup_of) .none kV_L_setup_of dc_L_setup_of pm_L_setup_of an_L_setup_of cd_L_setup_of ct_L_setup_of
  F_L_setup_of := fun_mk l_L_setup_of c_L_setup_of k_L_setup_of
  b_L_setup_of := (fun_mk (st := s_L_setup_of) l_L_setup_of c_L_setup_of k_L_setup_of).binds (ps := ["_law_text"]) fun _ _ _ _ _ _ us hl => match us, hl with | [_], _ => rfl
  m_L_setup_of := PySem.W.mg_of X G n_L_setup_of
  a_must := a_must
  fd_must := PySem.W.fnOf "must" "must" (defArgs s_must) (defBody s_must) (defScope s_must) .none kV_must dc_must pm_must an_must cd_must ct_must
  F_must := fun_mk l_must c_must k_must
  b_must := (fun_mk (st := s_must) l_must c_must k_must).binds (ps := ["good"]) fun _ _ _ _ _ _ us hl => match us, hl with | [_], _ => rfl
  m_must := PySem.W.mg_of X G n_must
  a_read_place := a_read_place
  fd_read_place := PySem.W.fnOf "read_place" "read_place" (defArgs s_read_place) (defBody s_read_place) (defScope s_read_place) .none kV_read_place dc_read_place pm_read_place an_read_place cd_read_place ct_read_place
  F_read_place := fun_mk l_read_place c_read_place k_read_place
  b_read_place := (fun_mk (st := s_read_place) l_read_place c_read_place k_read_place).binds (ps := ["text"]) fun _ _ _ _ _ _ us hl => match us, hl with | [_], _ => rfl
  m_read_place := PySem.W.mg_of X G n_read_place
  a_read_sign := a_read_sign
  fd_read_sign := PySem.W.fnOf "read_sign" "read_sign" (defArgs s_read_sign) (defBody s_read_sign) (defScope s_read_sign) .none kV_read_sign dc_read_sign pm_read_sign an_read_sign cd_read_sign ct_read_sign
  F_read_sign := fun_mk l_read_sign c_read_sign k_read_sign
  b_read_sign := (fun_mk (st := s_read_sign) l_read_sign c_read_sign k_read_sign).binds (ps := ["text"]) fun _ _ _ _ _ _ us hl => match us, hl with | [_], _ => rfl
  m_read_sign := PySem.W.mg_of X G n_read_sign
  a_read_setup := a_read_setup
  fd_read_setup := PySem.W.fnOf "read_setup" "read_setup" (defArgs s_read_setup) (defBody s_read_setup) (defScope s_read_setup) .none kV_read_setup dc_read_setup pm_read_setup an_read_setup cd_read_setup ct_read_setup
  F_read_setup := fun_mk l_read_setup c_read_setup k_read_setup
  b_read_setup := (fun_mk (st := s_read_setup) l_read_setup c_read_setup k_read_setup).binds (ps := ["text"]) fun _ _ _ _ _ _ us hl => match us, hl with | [_], _ => rfl
  m_read_setup := PySem.W.mg_of X G n_read_setup
  a_L_read := a_L_read
  fd_L_read := PySem.W.fnOf "_law_read" "_law_read" (defArgs s_L_read) (defBody s_L_read) (defScope s_L_read) .none kV_L_read dc_L_read pm_L_read an_L_read cd_L_read ct_L_read
  F_L_read := fun_mk l_L_read c_L_read k_L_read
  b_L_read := (fun_mk (st := s_L_read) l_L_read c_L_read k_L_read).binds (ps := ["_law_text"]) fun _ _ _ _ _ _ us hl => match us, hl with | [_], _ => rfl
  m_L_read := PySem.W.mg_of X G n_L_read
  a_L_same := a_L_same
  fd_L_same := PySem.W.fnOf "_law_same" "_law_same" (defArgs s_L_same) (defBody s_L_same) (defScope s_L_same) .none kV_L_same dc_L_same pm_L_same an_L_same cd_L_same ct_L_same
  F_L_same := fun_mk l_L_same c_L_same k_L_same
  b_L_same := (fun_mk (st := s_L_same) l_L_same c_L_same k_L_same).binds (ps := ["_law_found", "_law_due"]) fun _ _ _ _ _ _ us hl => match us, hl with | [_, _], _ => rfl
  m_L_same := PySem.W.mg_of X G n_L_same
  a_L_word := a_L_word
  fd_L_word := PySem.W.fnOf "_law_word" "_law_word" (defArgs s_L_word) (defBody s_L_word) (defScope s_L_word) .none kV_L_word dc_L_word pm_L_word an_L_word cd_L_word ct_L_word
  F_L_word := fun_mk l_L_word c_L_word k_L_word
  b_L_word := (fun_mk (st := s_L_word) l_L_word c_L_word k_L_word).binds (ps := ["_law_caught"]) fun _ _ _ _ _ _ us hl => match us, hl with | [_], _ => rfl
  m_L_word := PySem.W.mg_of X G n_L_word
  a_L_right := a_L_right
  fd_L_right := PySem.W.fnOf "_law_right" "_law_right" (defArgs s_L_right) (defBody s_L_right) (defScope s_L_right) .none kV_L_right dc_L_right pm_L_right an_L_right cd_L_right ct_L_right
  F_L_right := fun_mk l_L_right c_L_right k_L_right
  b_L_right := (fun_mk (st := s_L_right) l_L_right c_L_right k_L_right).binds (ps := ["_law_text"]) fun _ _ _ _ _ _ us hl => match us, hl with | [_], _ => rfl
  m_L_right := PySem.W.mg_of X G n_L_right
  a_L_bent_text := a_L_bent_text
  fd_L_bent_text := PySem.W.fnOf "_law_bent_text" "_law_bent_text" (defArgs s_L_bent_text) (defBody s_L_bent_text) (defScope s_L_bent_text) .none kV_L_bent_text dc_L_bent_text pm_L_bent_text an_L_bent_text cd_L_bent_text ct_L_bent_text
  F_L_bent_text := fun_mk l_L_bent_text c_L_bent_text k_L_bent_text
  b_L_bent_text := (fun_mk (st := s_L_bent_text) l_L_bent_text c_L_bent_text k_L_bent_text).binds (ps := ["_law_purse_here", "_law_text", "_law_near"]) fun _ _ _ _ _ _ us hl => match us, hl with | [_, _, _], _ => rfl
  m_L_bent_text := PySem.W.mg_of X G n_L_bent_text
  a_L_odd := a_L_odd
  fd_L_odd := PySem.W.fnOf "_law_odd" "_law_odd" (defArgs s_L_odd) (defBody s_L_odd) (defScope s_L_odd) .none kV_L_odd dc_L_odd pm_L_odd an_L_odd cd_L_odd ct_L_odd
  F_L_odd := fun_mk l_L_odd c_L_odd k_L_odd
  b_L_odd := (fun_mk (st := s_L_odd) l_L_odd c_L_odd k_L_odd).binds (ps := ["_law_purse_here", "_law_text"]) fun _ _ _ _ _ _ us hl => match us, hl with | [_, _], _ => rfl
  m_L_odd := PySem.W.mg_of X G n_L_odd
  a_law := a_law
  fd_law := PySem.W.fnOf "law" "law" (defArgs s_law) (defBody s_law) (defScope s_law) .none kV_law dc_law pm_law an_law cd_law ct_law
  F_law := fun_mk l_law c_law k_law
  b_law := (fun_mk (st := s_law) l_law c_law k_law).binds (ps := ["_law_script"]) fun _ _ _ _ _ _ us hl => match us, hl with | [_], _ => rfl
  m_law := PySem.W.mg_of X G n_law
  C_NoText := C_NoText
  m_NoText := PySem.W.mg_of X G n_NoText
  C_MillError := C_MillError
  m_MillError := PySem.W.mg_of X G n_MillError
  C_NoMachine := C_NoMachine
  m_NoMachine := PySem.W.mg_of X G n_NoMachine
  C_NoName := C_NoName
  m_NoName := PySem.W.mg_of X G n_NoName
  C_Twice := C_Twice
  m_Twice := PySem.W.mg_of X G n_Twice
  C_Full := C_Full
  m_Full := PySem.W.mg_of X G n_Full
  C_NoSuch := C_NoSuch
  m_NoSuch := PySem.W.mg_of X G n_NoSuch
  C_NoPaper := C_NoPaper
  m_NoPaper := PySem.W.mg_of X G n_NoPaper
  C_NoDeed := C_NoDeed
  m_NoDeed := PySem.W.mg_of X G n_NoDeed
  C_NoSize := C_NoSize
  m_NoSize := PySem.W.mg_of X G n_NoSize
  tk_FIGURES := tk_FIGURES
  m_FIGURES := PySem.W.mg_of X G n_FIGURES
  tk_ROWS := tk_ROWS
  m_ROWS := PySem.W.mg_of X G n_ROWS
  n_range := PySem.W.mg_none_of X G z_range
  n_len := PySem.W.mg_none_of X G z_len
  n_abs := PySem.W.mg_none_of X G z_abs
  n_str := PySem.W.mg_none_of X G z_str
  n_int := PySem.W.mg_none_of X G z_int
  n_all := PySem.W.mg_none_of X G z_all
  n_isinstance := PySem.W.mg_none_of X G z_isinstance
  n_tuple := PySem.W.mg_none_of X G z_tuple
  n_list := PySem.W.mg_none_of X G z_list
  n_bool := PySem.W.mg_none_of X G z_bool
  n_ValueError := PySem.W.mg_none_of X G z_ValueError
  x_NoText := fa_x_NoText
  k_NoText := fa_k_NoText
  b_NoText := fa_b_NoText
  t_NoText := fa_t_NoText
  h_NoText := fa_h_NoText
  k_MillError := fa_k_MillError
  b_MillError := fa_b_MillError
  t_MillError := fa_t_MillError
  h_MillError := fa_h_MillError
  hg_NoText := fa_hg_NoText
  hk_NoText := fa_hk_NoText
  ha_NoText := fa_ha_NoText
  hm_NoText := fa_hm_NoText
  s_NoText_MillError := fa_s_NoText_MillError
  hn_ := fa_hn_
  ht_ := fa_ht_
  i_NoMachine := fa_i_NoMachine
  se_NoMachine := fa_se_NoMachine
  t_NoMachine := fa_t_NoMachine
  s_NoText_NoMachine := fa_s_NoText_NoMachine
  sn_NoMachine := fa_sn_NoMachine
  i_NoText := fa_i_NoText
  se_NoText := fa_se_NoText
  s_NoText_NoText := fa_s_NoText_NoText
  sn_NoText := fa_sn_NoText
  i_NoName := fa_i_NoName
  se_NoName := fa_se_NoName
  t_NoName := fa_t_NoName
  s_NoText_NoName := fa_s_NoText_NoName
  sn_NoName := fa_sn_NoName
  i_Twice := fa_i_Twice
  se_Twice := fa_se_Twice
  t_Twice := fa_t_Twice
  s_NoText_Twice := fa_s_NoText_Twice
  sn_Twice := fa_sn_Twice
  i_Full := fa_i_Full
  se_Full := fa_se_Full
  t_Full := fa_t_Full
  s_NoText_Full := fa_s_NoText_Full
  sn_Full := fa_sn_Full
  i_NoSuch := fa_i_NoSuch
  se_NoSuch := fa_se_NoSuch
  t_NoSuch := fa_t_NoSuch
  s_NoText_NoSuch := fa_s_NoText_NoSuch
  sn_NoSuch := fa_sn_NoSuch
  i_NoPaper := fa_i_NoPaper
  se_NoPaper := fa_se_NoPaper
  t_NoPaper := fa_t_NoPaper
  s_NoText_NoPaper := fa_s_NoText_NoPaper
  sn_NoPaper := fa_sn_NoPaper
  i_NoDeed := fa_i_NoDeed
  se_NoDeed := fa_se_NoDeed
  t_NoDeed := fa_t_NoDeed
  s_NoText_NoDeed := fa_s_NoText_NoDeed
  sn_NoDeed := fa_sn_NoDeed
  i_NoSize := fa_i_NoSize
  se_NoSize := fa_se_NoSize
  t_NoSize := fa_t_NoSize
  s_NoText_NoSize := fa_s_NoText_NoSize
  sn_NoSize := fa_sn_NoSize
  i_MillError := fa_i_MillError
  se_MillError := fa_se_MillError
  sn_MillError := fa_sn_MillError
  s_NoText_ValueError := fa_s_NoText_ValueError
theorem all_mk {l : PySem.W.OpenLaw} {w : World} {K : PySem.W.Frag} {h : Heap} {mg : Str → Option Value} {fa : Addr} (X : K.In h) (G : h.Ns mainGlobals mg) (hfa : mg "law" = some (.ref fa)) (t : Tx K mg)
    (hb : ∃ (kV dc pm : Value) (an : Option Addr) (cd ct : Value), t.fd_law = PySem.W.fnOf "law" "law" (defArgs s_law) (defBody s_law) (defScope s_law) .none kV dc pm an cd ct) :
    ∃ fd : FuncData, (∀ (s : Shared) (v : Value), BindsTo s fd ⟨[v], []⟩ [("_law_script", v)]) ∧ ∀ base : Heap, K.In base → base.Ns mainGlobals mg → FnOk l.prog w K mg base CX0 8 fa fd ["_law_script"] (sp_law K) := by
  have e := hfa.symm.trans t.m_law
  cases e
  refine ⟨t.fd_law, fun s v => ?_, fun base _ _ => ok_law t⟩
  obtain ⟨kV, dc, pm, an, cd, ct, e⟩ := hb
  rw [e]
  exact .of_eq rfl
theorem walk {l : PySem.W.OpenLaw} {q : Program} {loose : List Str} {XP : (Str → Option Value) → Heap → Prop} {YP : World → Heap → Prop} {d : DefRec} {K : Params → PySem.W.Frag} (hn : l.most = some 63) (hdf : d.params.defaults = [])
    (hY : ∀ (w : World) (h : Heap), YP w h → (K w.params).In h)
    (F : ∀ (w : World) (mg : Str → Option Value) (fa : Addr) (h : Heap), (K w.params).In h → h.Ns mainGlobals mg → mg d.name = some (.ref fa) →
      ∃ fd : FuncData, (∀ (s : Shared) (u : Value), BindsTo s fd ⟨[u], []⟩ [("_law_script", u)]) ∧ ∀ base : Heap, (K w.params).In base → base.Ns mainGlobals mg → FnOk l.prog w (K w.params) mg base CX0 8 fa fd ["_law_script"] (sp_law (K w.params))) :
    PySem.W.WalkO q loose XP YP l.row.toRowW d [] (fun f vs => PySem.call f vs) :=
  L2.walk_of (n := 63) (k := 8) (x := "_law_script") (CX := fun _ => CX0) (sp := fun w => sp_law (K w.params)) hn (by decide) hdf ⟨rfl, by decide, by decide⟩ hY F (fun _ _ a ns hl _ hS => ⟨a, ns, rfl, hS, hl, fun _ => rfl⟩) fun _ _ _ _ _ z => z
theorem all_go {l : PySem.W.OpenLaw} {w : World} {K : PySem.W.Frag} {h : Heap} {mg : Str → Option Value} {fa : Addr} {a_L_mixed a_L_purse a_L_draw a_L_place a_L_setup a_L_setup_text a_L_whole a_L_setup_of a_must a_read_place a_read_sign a_read_setup a_L_read a_L_same a_L_word a_L_right a_L_bent_text a_L_odd a_law C_NoText C_MillError C_NoMachine C_NoName C_Twice C_Full C_NoSuch C_NoPaper C_NoDeed C_NoSize : Addr} {od_L_mixed an_L_mixed od_L_purse an_L_purse od_L_draw an_L_draw od_L_place an_L_place od_L_setup an_L_setup od_L_setup_text an_L_setup_text od_L_whole an_L_whole od_L_setup_of an_L_setup_of od_must an_must od_read_place an_read_place od_read_sign an_read_sign od_read_setup an_read_setup od_L_read an_L_read od_L_same an_L_same od_L_word an_L_word od_L_right an_L_right od_L_bent_text an_L_bent_text od_L_odd an_L_odd od_law an_law : Option Addr} {sl_L_mixed sl_L_purse sl_L_draw sl_L_place sl_L_setup sl_L_setup_text sl_L_whole sl_L_setup_of sl_must sl_read_place sl_read_sign sl_read_setup sl_L_read sl_L_same sl_L_word sl_L_right sl_L_bent_text sl_L_odd sl_law : Array (Option Value)} {oc_L_mixed kV_L_mixed dc_L_mixed pm_L_mixed cd_L_mixed ct_L_mixed oc_L_purse kV_L_purse dc_L_purse pm_L_purse cd_L_purse ct_L_purse oc_L_draw kV_L_draw dc_L_draw pm_L_draw cd_L_draw ct_L_draw oc_L_place kV_L_place dc_L_place pm_L_place cd_L_place ct_L_place oc_L_setup kV_L_setup dc_L_setup pm_L_setup cd_L_setup ct_L_setup oc_L_setup_text kV_L_setup_text dc_L_setup_text pm_L_setup_text cd_L_setup_text ct_L_setup_text oc_L_whole kV_L_whole dc_L_whole pm_L_whole cd_L_whole ct_L_whole oc_L_setup_of kV_L_setup_of dc_L_setup_of pm_L_setup_of cd_L_setup_of ct_L_setup_of oc_must kV_must dc_must pm_must cd_must ct_must oc_read_place kV_read_place dc_read_place pm_read_place cd_read_place ct_read_place oc_read_sign kV_read_sign dc_read_sign pm_read_sign cd_read_sign ct_read_sign oc_read_setup kV_read_setup dc_read_setup pm_read_setup cd_read_setup ct_read_setup oc_L_read kV_L_read dc_L_read pm_L_read cd_L_read ct_L_read oc_L_same kV_L_same dc_L_same pm_L_same cd_L_same ct_L_same oc_L_word kV_L_word dc_L_word pm_L_word cd_L_word ct_L_word oc_L_right kV_L_right dc_L_right pm_L_right cd_L_right ct_L_right oc_L_bent_text kV_L_bent_text dc_L_bent_text pm_L_bent_text cd_L_bent_text ct_L_bent_text oc_L_odd kV_L_odd dc_L_odd pm_L_odd cd_L_odd ct_L_odd oc_law kV_law dc_law pm_law cd_law ct_law : Value} {tk_FIGURES tk_ROWS : Tok} (X : K.In h) (G : h.Ns mainGlobals mg) (hfa : mg "law" = some (.ref fa))
    (n_NoText : PySem.W.nsIn K mainGlobals "NoText" = some (some (.ref C_NoText)))
    (n_MillError : PySem.W.nsIn K mainGlobals "MillError" = some (some (.ref C_MillError)))
    (n_NoMachine : PySem.W.nsIn K mainGlobals "NoMachine" = some (some (.ref C_NoMachine)))
    (n_NoName : PySem.W.nsIn K mainGlobals "NoName" = some (some (.ref C_NoName)))
    (n_Twice : PySem.W.nsIn K mainGlobals "Twice" = some (some (.ref C_Twice)))
    (n_Full : PySem.W.nsIn K mainGlobals "Full" = some (some (.ref C_Full)))
    (n_NoSuch : PySem.W.nsIn K mainGlobals "NoSuch" = some (some (.ref C_NoSuch)))
    (n_NoPaper : PySem.W.nsIn K mainGlobals "NoPaper" = some (some (.ref C_NoPaper)))
    (n_NoDeed : PySem.W.nsIn K mainGlobals "NoDeed" = some (some (.ref C_NoDeed)))
    (n_NoSize : PySem.W.nsIn K mainGlobals "NoSize" = some (some (.ref C_NoSize)))
    (n_L_mixed : PySem.W.nsIn K mainGlobals "_law_mixed" = some (some (.ref a_L_mixed)))
    (l_L_mixed : K.lookup a_L_mixed = some ⟨oc_L_mixed, od_L_mixed, .func (PySem.W.fnOf "_law_mixed" "_law_mixed" (defArgs s_L_mixed) (defBody s_L_mixed) (defScope s_L_mixed) .none kV_L_mixed dc_L_mixed pm_L_mixed an_L_mixed cd_L_mixed ct_L_mixed), sl_L_mixed⟩)
    (c_L_mixed : PySem.W.codeIn K cd_L_mixed "_law_mixed" = true)
    (k_L_mixed : PySem.W.keepIn K (.ref a_L_mixed) = true)
    (n_L_purse : PySem.W.nsIn K mainGlobals "_law_purse" = some (some (.ref a_L_purse)))
    (l_L_purse : K.lookup a_L_purse = some ⟨oc_L_purse, od_L_purse, .func (PySem.W.fnOf "_law_purse" "_law_purse" (defArgs s_L_purse) (defBody s_L_purse) (defScope s_L_purse) .none kV_L_purse dc_L_purse pm_L_purse an_L_purse cd_L_purse ct_L_purse), sl_L_purse⟩)
    (c_L_purse : PySem.W.codeIn K cd_L_purse "_law_purse" = true)
    (k_L_purse : PySem.W.keepIn K (.ref a_L_purse) = true)
    (n_L_draw : PySem.W.nsIn K mainGlobals "_law_draw" = some (some (.ref a_L_draw)))
    (l_L_draw : K.lookup a_L_draw = some ⟨oc_L_draw, od_L_draw, .func (PySem.W.fnOf "_law_draw" "_law_draw" (defArgs s_L_draw) (defBody s_L_draw) (defScope s_L_draw) .none kV_L_draw dc_L_draw pm_L_draw an_L_draw cd_L_draw ct_L_draw), sl_L_draw⟩)
    (c_L_draw : PySem.W.codeIn K cd_L_draw "_law_draw" = true)
    (k_L_draw : PySem.W.keepIn K (.ref a_L_draw) = true)
    (n_L_place : PySem.W.nsIn K mainGlobals "_law_place" = some (some (.ref a_L_place)))
    (l_L_place : K.lookup a_L_place = some ⟨oc_L_place, od_L_place, .func (PySem.W.fnOf "_law_place" "_law_place" (defArgs s_L_place) (defBody s_L_place) (defScope s_L_place) .none kV_L_place dc_L_place pm_L_place an_L_place cd_L_place ct_L_place), sl_L_place⟩)
    (c_L_place : PySem.W.codeIn K cd_L_place "_law_place" = true)
    (k_L_place : PySem.W.keepIn K (.ref a_L_place) = true)
    (n_L_setup : PySem.W.nsIn K mainGlobals "_law_setup" = some (some (.ref a_L_setup)))
    (l_L_setup : K.lookup a_L_setup = some ⟨oc_L_setup, od_L_setup, .func (PySem.W.fnOf "_law_setup" "_law_setup" (defArgs s_L_setup) (defBody s_L_setup) (defScope s_L_setup) .none kV_L_setup dc_L_setup pm_L_setup an_L_setup cd_L_setup ct_L_setup), sl_L_setup⟩)
    (c_L_setup : PySem.W.codeIn K cd_L_setup "_law_setup" = true)
    (k_L_setup : PySem.W.keepIn K (.ref a_L_setup) = true)
    (n_L_setup_text : PySem.W.nsIn K mainGlobals "_law_setup_text" = some (some (.ref a_L_setup_text)))
    (l_L_setup_text : K.lookup a_L_setup_text = some ⟨oc_L_setup_text, od_L_setup_text, .func (PySem.W.fnOf "_law_setup_text" "_law_setup_text" (defArgs s_L_setup_text) (defBody s_L_setup_text) (defScope s_L_setup_text) .none kV_L_setup_text dc_L_setup_text pm_L_setup_text an_L_setup_text cd_L_setup_text ct_L_setup_text), sl_L_setup_text⟩)
    (c_L_setup_text : PySem.W.codeIn K cd_L_setup_text "_law_setup_text" = true)
    (k_L_setup_text : PySem.W.keepIn K (.ref a_L_setup_text) = true)
    (n_L_whole : PySem.W.nsIn K mainGlobals "_law_whole" = some (some (.ref a_L_whole)))
    (l_L_whole : K.lookup a_L_whole = some ⟨oc_L_whole, od_L_whole, .func (PySem.W.fnOf "_law_whole" "_law_whole" (defArgs s_L_whole) (defBody s_L_whole) (defScope s_L_whole) .none kV_L_whole dc_L_whole pm_L_whole an_L_whole cd_L_whole ct_L_whole), sl_L_whole⟩)
    (c_L_whole : PySem.W.codeIn K cd_L_whole "_law_whole" = true)
    (k_L_whole : PySem.W.keepIn K (.ref a_L_whole) = true)
    (n_L_setup_of : PySem.W.nsIn K mainGlobals "_law_setup_of" = some (some (.ref a_L_setup_of)))
    (l_L_setup_of : K.lookup a_L_setup_of = some ⟨oc_L_setup_of, od_L_setup_of, .func (PySem.W.fnOf "_law_setup_of" "_law_setup_of" (defArgs s_L_setup_of) (defBody s_L_setup_of) (defScope s_L_setup_of) .none kV_L_setup_of dc_L_setup_of pm_L_setup_of an_L_setup_of cd_L_setup_of ct_L_setup_of), sl_L_setup_of⟩)
    (c_L_setup_of : PySem.W.codeIn K cd_L_setup_of "_law_setup_of" = true)
    (k_L_setup_of : PySem.W.keepIn K (.ref a_L_setup_of) = true)
    (n_must : PySem.W.nsIn K mainGlobals "must" = some (some (.ref a_must)))
    (l_must : K.lookup a_must = some ⟨oc_must, od_must, .func (PySem.W.fnOf "must" "must" (defArgs s_must) (defBody s_must) (defScope s_must) .none kV_must dc_must pm_must an_must cd_must ct_must), sl_must⟩)
    (c_must : PySem.W.codeIn K cd_must "must" = true)
    (k_must : PySem.W.keepIn K (.ref a_must) = true)
    (n_read_place : PySem.W.nsIn K mainGlobals "read_place" = some (some (.ref a_read_place)))
    (l_read_place : K.lookup a_read_place = some ⟨oc_read_place, od_read_place, .func (PySem.W.fnOf "read_place" "read_place" (defArgs s_read_place) (defBody s_read_place) (defScope s_read_place) .none kV_read_place dc_read_place pm_read_place an_read_place cd_read_place ct_read_place), sl_read_place⟩)
    (c_read_place : PySem.W.codeIn K cd_read_place "read_place" = true)
    (k_read_place : PySem.W.keepIn K (.ref a_read_place) = true)
    (n_read_sign : PySem.W.nsIn K mainGlobals "read_sign" = some (some (.ref a_read_sign)))
    (l_read_sign : K.lookup a_read_sign = some ⟨oc_read_sign, od_read_sign, .func (PySem.W.fnOf "read_sign" "read_sign" (defArgs s_read_sign) (defBody s_read_sign) (defScope s_read_sign) .none kV_read_sign dc_read_sign pm_read_sign an_read_sign cd_read_sign ct_read_sign), sl_read_sign⟩)
    (c_read_sign : PySem.W.codeIn K cd_read_sign "read_sign" = true)
    (k_read_sign : PySem.W.keepIn K (.ref a_read_sign) = true)
    (n_read_setup : PySem.W.nsIn K mainGlobals "read_setup" = some (some (.ref a_read_setup)))
    (l_read_setup : K.lookup a_read_setup = some ⟨oc_read_setup, od_read_setup, .func (PySem.W.fnOf "read_setup" "read_setup" (defArgs s_read_setup) (defBody s_read_setup) (defScope s_read_setup) .none kV_read_setup dc_read_setup pm_read_setup an_read_setup cd_read_setup ct_read_setup), sl_read_setup⟩)
    (c_read_setup : PySem.W.codeIn K cd_read_setup "read_setup" = true)
    (k_read_setup : PySem.W.keepIn K (.ref a_read_setup) = true)
    (n_L_read : PySem.W.nsIn K mainGlobals "_law_read" = some (some (.ref a_L_read)))
    (l_L_read : K.lookup a_L_read = some ⟨oc_L_read, od_L_read, .func (PySem.W.fnOf "_law_read" "_law_read" (defArgs s_L_read) (defBody s_L_read) (defScope s_L_read) .none kV_L_read dc_L_read pm_L_read an_L_read cd_L_read ct_L_read), sl_L_read⟩)
    (c_L_read : PySem.W.codeIn K cd_L_read "_law_read" = true)
    (k_L_read : PySem.W.keepIn K (.ref a_L_read) = true)
    (n_L_same : PySem.W.nsIn K mainGlobals "_law_same" = some (some (.ref a_L_same)))
    (l_L_same : K.lookup a_L_same = some ⟨oc_L_same, od_L_same, .func (PySem.W.fnOf "_law_same" "_law_same" (defArgs s_L_same) (defBody s_L_same) (defScope s_L_same) .none kV_L_same dc_L_same pm_L_same an_L_same cd_L_same ct_L_same), sl_L_same⟩)
    (c_L_same : PySem.W.codeIn K cd_L_same "_law_same" = true)
    (k_L_same : PySem.W.keepIn K (.ref a_L_same) = true)
    (n_L_word : PySem.W.nsIn K mainGlobals "_law_word" = some (some (.ref a_L_word)))
    (l_L_word : K.lookup a_L_word = some ⟨oc_L_word, od_L_word, .func (PySem.W.fnOf "_law_word" "_law_word" (defArgs s_L_word) (defBody s_L_word) (defScope s_L_word) .none kV_L_word dc_L_word pm_L_word an_L_word cd_L_word ct_L_word), sl_L_word⟩)
    (c_L_word : PySem.W.codeIn K cd_L_word "_law_word" = true)
    (k_L_word : PySem.W.keepIn K (.ref a_L_word) = true)
    (n_L_right : PySem.W.nsIn K mainGlobals "_law_right" = some (some (.ref a_L_right)))
    (l_L_right : K.lookup a_L_right = some ⟨oc_L_right, od_L_right, .func (PySem.W.fnOf "_law_right" "_law_right" (defArgs s_L_right) (defBody s_L_right) (defScope s_L_right) .none kV_L_right dc_L_right pm_L_right an_L_right cd_L_right ct_L_right), sl_L_right⟩)
    (c_L_right : PySem.W.codeIn K cd_L_right "_law_right" = true)
    (k_L_right : PySem.W.keepIn K (.ref a_L_right) = true)
    (n_L_bent_text : PySem.W.nsIn K mainGlobals "_law_bent_text" = some (some (.ref a_L_bent_text)))
    (l_L_bent_text : K.lookup a_L_bent_text = some ⟨oc_L_bent_text, od_L_bent_text, .func (PySem.W.fnOf "_law_bent_text" "_law_bent_text" (defArgs s_L_bent_text) (defBody s_L_bent_text) (defScope s_L_bent_text) .none kV_L_bent_text dc_L_bent_text pm_L_bent_text an_L_bent_text cd_L_bent_text ct_L_bent_text), sl_L_bent_text⟩)
    (c_L_bent_text : PySem.W.codeIn K cd_L_bent_text "_law_bent_text" = true)
    (k_L_bent_text : PySem.W.keepIn K (.ref a_L_bent_text) = true)
    (n_L_odd : PySem.W.nsIn K mainGlobals "_law_odd" = some (some (.ref a_L_odd)))
    (l_L_odd : K.lookup a_L_odd = some ⟨oc_L_odd, od_L_odd, .func (PySem.W.fnOf "_law_odd" "_law_odd" (defArgs s_L_odd) (defBody s_L_odd) (defScope s_L_odd) .none kV_L_odd dc_L_odd pm_L_odd an_L_odd cd_L_odd ct_L_odd), sl_L_odd⟩)
    (c_L_odd : PySem.W.codeIn K cd_L_odd "_law_odd" = true)
    (k_L_odd : PySem.W.keepIn K (.ref a_L_odd) = true)
    (n_law : PySem.W.nsIn K mainGlobals "law" = some (some (.ref a_law)))
    (l_law : K.lookup a_law = some ⟨oc_law, od_law, .func (PySem.W.fnOf "law" "law" (defArgs s_law) (defBody s_law) (defScope s_law) .none kV_law dc_law pm_law an_law cd_law ct_law), sl_law⟩)
    (c_law : PySem.W.codeIn K cd_law "law" = true)
    (k_law : PySem.W.keepIn K (.ref a_law) = true)
    (n_FIGURES : PySem.W.nsIn K mainGlobals "FIGURES" = some (some (.str "0123456789" tk_FIGURES)))
    (n_ROWS : PySem.W.nsIn K mainGlobals "ROWS" = some (some (.str "ABCD" tk_ROWS)))
    (z_range : PySem.W.nsIn K mainGlobals "range" = some none)
    (z_len : PySem.W.nsIn K mainGlobals "len" = some none)
    (z_abs : PySem.W.nsIn K mainGlobals "abs" = some none)
    (z_str : PySem.W.nsIn K mainGlobals "str" = some none)
    (z_int : PySem.W.nsIn K mainGlobals "int" = some none)
    (z_all : PySem.W.nsIn K mainGlobals "all" = some none)
    (z_isinstance : PySem.W.nsIn K mainGlobals "isinstance" = some none)
    (z_tuple : PySem.W.nsIn K mainGlobals "tuple" = some none)
    (z_list : PySem.W.nsIn K mainGlobals "list" = some none)
    (z_bool : PySem.W.nsIn K mainGlobals "bool" = some none)
    (z_ValueError : PySem.W.nsIn K mainGlobals "ValueError" = some none)
    (fa_x_NoText : PySem.W.excIn K C_NoText [.type "ValueError", .type "Exception", .type "BaseException", .type "object"] "ValueError.__new__" = true)
    (fa_k_NoText : PySem.W.keepIn K (.ref C_NoText) = true)
    (fa_b_NoText : PySem.W.subIn K (.ref C_NoText) (.type "BaseException") = some true)
    (fa_t_NoText : PySem.W.typeIn K (.ref C_NoText) = some (.type "type"))
    (fa_h_NoText : PySem.W.hasDictIn K C_NoText = true)
    (fa_k_MillError : PySem.W.keepIn K (.ref C_MillError) = true)
    (fa_b_MillError : PySem.W.subIn K (.ref C_MillError) (.type "BaseException") = some true)
    (fa_t_MillError : PySem.W.typeIn K (.ref C_MillError) = some (.type "type"))
    (fa_h_MillError : PySem.W.hasDictIn K C_MillError = true)
    (fa_hg_NoText : PySem.W.findIn K (.ref C_NoText) "__getattribute__" = some (some (.builtin "BaseException.__getattribute__")))
    (fa_hk_NoText : PySem.W.findIn K (.ref C_NoText) "__getattr__" = some none)
    (fa_ha_NoText : PySem.W.findIn K (.ref C_NoText) "__class__" = some (some (.builtin "object.__class__")))
    (fa_hm_NoText : PySem.W.mroIn K C_NoText (.type "object") = some true)
    (fa_s_NoText_MillError : PySem.W.subIn K (.ref C_NoText) (.ref C_MillError) = some true)
    (fa_hn_ : PySem.W.specialIn K (.builtin "object.__class__") "__get__" = some (some (.builtin "getset_descriptor.__get__")))
    (fa_ht_ : PySem.W.takesIn K (.builtin "object.__class__") = some true)
    (fa_i_NoMachine : PySem.W.isClsIn K C_NoMachine = true)
    (fa_se_NoMachine : PySem.W.subIn K (.ref C_NoMachine) (.ref C_NoMachine) = some true)
    (fa_t_NoMachine : PySem.W.typeIn K (.ref C_NoMachine) = some (.type "type"))
    (fa_s_NoText_NoMachine : PySem.W.subIn K (.ref C_NoText) (.ref C_NoMachine) = some false)
    (fa_sn_NoMachine : PySem.W.subIn K (.type "NoneType") (.ref C_NoMachine) = some false)
    (fa_i_NoText : PySem.W.isClsIn K C_NoText = true)
    (fa_se_NoText : PySem.W.subIn K (.ref C_NoText) (.ref C_NoText) = some true)
    (fa_s_NoText_NoText : PySem.W.subIn K (.ref C_NoText) (.ref C_NoText) = some true)
    (fa_sn_NoText : PySem.W.subIn K (.type "NoneType") (.ref C_NoText) = some false)
    (fa_i_NoName : PySem.W.isClsIn K C_NoName = true)
    (fa_se_NoName : PySem.W.subIn K (.ref C_NoName) (.ref C_NoName) = some true)
    (fa_t_NoName : PySem.W.typeIn K (.ref C_NoName) = some (.type "type"))
    (fa_s_NoText_NoName : PySem.W.subIn K (.ref C_NoText) (.ref C_NoName) = some false)
    (fa_sn_NoName : PySem.W.subIn K (.type "NoneType") (.ref C_NoName) = some false)
    (fa_i_Twice : PySem.W.isClsIn K C_Twice = true)
    (fa_se_Twice : PySem.W.subIn K (.ref C_Twice) (.ref C_Twice) = some true)
    (fa_t_Twice : PySem.W.typeIn K (.ref C_Twice) = some (.type "type"))
    (fa_s_NoText_Twice : PySem.W.subIn K (.ref C_NoText) (.ref C_Twice) = some false)
    (fa_sn_Twice : PySem.W.subIn K (.type "NoneType") (.ref C_Twice) = some false)
    (fa_i_Full : PySem.W.isClsIn K C_Full = true)
    (fa_se_Full : PySem.W.subIn K (.ref C_Full) (.ref C_Full) = some true)
    (fa_t_Full : PySem.W.typeIn K (.ref C_Full) = some (.type "type"))
    (fa_s_NoText_Full : PySem.W.subIn K (.ref C_NoText) (.ref C_Full) = some false)
    (fa_sn_Full : PySem.W.subIn K (.type "NoneType") (.ref C_Full) = some false)
    (fa_i_NoSuch : PySem.W.isClsIn K C_NoSuch = true)
    (fa_se_NoSuch : PySem.W.subIn K (.ref C_NoSuch) (.ref C_NoSuch) = some true)
    (fa_t_NoSuch : PySem.W.typeIn K (.ref C_NoSuch) = some (.type "type"))
    (fa_s_NoText_NoSuch : PySem.W.subIn K (.ref C_NoText) (.ref C_NoSuch) = some false)
    (fa_sn_NoSuch : PySem.W.subIn K (.type "NoneType") (.ref C_NoSuch) = some false)
    (fa_i_NoPaper : PySem.W.isClsIn K C_NoPaper = true)
    (fa_se_NoPaper : PySem.W.subIn K (.ref C_NoPaper) (.ref C_NoPaper) = some true)
    (fa_t_NoPaper : PySem.W.typeIn K (.ref C_NoPaper) = some (.type "type"))
    (fa_s_NoText_NoPaper : PySem.W.subIn K (.ref C_NoText) (.ref C_NoPaper) = some false)
    (fa_sn_NoPaper : PySem.W.subIn K (.type "NoneType") (.ref C_NoPaper) = some false)
    (fa_i_NoDeed : PySem.W.isClsIn K C_NoDeed = true)
    (fa_se_NoDeed : PySem.W.subIn K (.ref C_NoDeed) (.ref C_NoDeed) = some true)
    (fa_t_NoDeed : PySem.W.typeIn K (.ref C_NoDeed) = some (.type "type"))
    (fa_s_NoText_NoDeed : PySem.W.subIn K (.ref C_NoText) (.ref C_NoDeed) = some false)
    (fa_sn_NoDeed : PySem.W.subIn K (.type "NoneType") (.ref C_NoDeed) = some false)
    (fa_i_NoSize : PySem.W.isClsIn K C_NoSize = true)
    (fa_se_NoSize : PySem.W.subIn K (.ref C_NoSize) (.ref C_NoSize) = some true)
    (fa_t_NoSize : PySem.W.typeIn K (.ref C_NoSize) = some (.type "type"))
    (fa_s_NoText_NoSize : PySem.W.subIn K (.ref C_NoText) (.ref C_NoSize) = some false)
    (fa_sn_NoSize : PySem.W.subIn K (.type "NoneType") (.ref C_NoSize) = some false)
    (fa_i_MillError : PySem.W.isClsIn K C_MillError = true)
    (fa_se_MillError : PySem.W.subIn K (.ref C_MillError) (.ref C_MillError) = some true)
    (fa_sn_MillError : PySem.W.subIn K (.type "NoneType") (.ref C_MillError) = some false)
    (fa_s_NoText_ValueError : PySem.W.subIn K (.ref C_NoText) (.type "ValueError") = some true) :
    ∃ fd : FuncData, (∀ (s : Shared) (v : Value), BindsTo s fd ⟨[v], []⟩ [("_law_script", v)]) ∧ ∀ base : Heap, K.In base → base.Ns mainGlobals mg → FnOk l.prog w K mg base CX0 8 fa fd ["_law_script"] (sp_law K) :=
  all_mk X G hfa (all_tx X G n_NoText n_MillError n_NoMachine n_NoName n_Twice n_Full n_NoSuch n_NoPaper n_NoDeed n_NoSize n_L_mixed l_L_mixed c_L_mixed k_L_mixed n_L_purse l_L_purse c_L_purse k_L_purse n_L_draw l_L_draw c_L_draw k_L_draw n_L_place l_L_place c_L_place k_L_place n_L_setup l_L_setup c_L_setup k_L_setup n_L_setup_text l_L_setup_text c_L_setup_text k_L_setup_text n_L_whole l_L_whole c_L_whole k_L_whole n_L_setup_of l_L_setup_of c_L_setup_of k_L_setup_of n_must l_must c_must k_must n_read_place l_read_place c_read_place k_read_place n_read_sign l_read_sign c_read_sign k_read_sign n_read_setup l_read_setup c_read_setup k_read_setup n_L_read l_L_read c_L_read k_L_read n_L_same l_L_same c_L_same k_L_same n_L_word l_L_word c_L_word k_L_word n_L_right l_L_right c_L_right k_L_right n_L_bent_text l_L_bent_text c_L_bent_text k_L_bent_text n_L_odd l_L_odd c_L_odd k_L_odd n_law l_law c_law k_law n_FIGURES n_ROWS z_range z_len z_abs z_str z_int z_all z_isinstance z_tuple z_list z_bool z_ValueError fa_x_NoText fa_k_NoText fa_b_NoText fa_t_NoText fa_h_NoText fa_k_MillError fa_b_MillError fa_t_MillError fa_h_MillError fa_hg_NoText fa_hk_NoText fa_ha_NoText fa_hm_NoText fa_s_NoText_MillError fa_hn_ fa_ht_ fa_i_NoMachine fa_se_NoMachine fa_t_NoMachine fa_s_NoText_NoMachine fa_sn_NoMachine fa_i_NoText fa_se_NoText fa_s_NoText_NoText fa_sn_NoText fa_i_NoName fa_se_NoName fa_t_NoName fa_s_NoText_NoName fa_sn_NoName fa_i_Twice fa_se_Twice fa_t_Twice fa_s_NoText_Twice fa_sn_Twice fa_i_Full fa_se_Full fa_t_Full fa_s_NoText_Full fa_sn_Full fa_i_NoSuch fa_se_NoSuch fa_t_NoSuch fa_s_NoText_NoSuch fa_sn_NoSuch fa_i_NoPaper fa_se_NoPaper fa_t_NoPaper fa_s_NoText_NoPaper fa_sn_NoPaper fa_i_NoDeed fa_se_NoDeed fa_t_NoDeed fa_s_NoText_NoDeed fa_sn_NoDeed fa_i_NoSize fa_se_NoSize fa_t_NoSize fa_s_NoText_NoSize fa_sn_NoSize fa_i_MillError fa_se_MillError fa_sn_MillError fa_s_NoText_ValueError) ⟨_, _, _, _, _, _, rfl⟩
end E
open PySem PySem.W PyProof.Rows
set_option maxRecDepth 100000 in
set_option maxHeartbeats 0 in
theorem PySem.Challenge.cw_endnever_k14_texts_of_no_setup_holds : PySem.Challenge.rw_endnever_k14_texts_of_no_setup.Holds := by
  w_on; o_law; k_head; (case hw => w_witness2)
  k_fill
  refine E.walk (l := PySem.Challenge.rw_endnever_k14_texts_of_no_setup) rfl rfl (fun w h Y => PySem.W.kIn_of Y) ?F
  case F =>
    intro w mg fa h KX G hmg
    refine' E.all_go KX G hmg ?n_NoText ?n_MillError ?n_NoMachine ?n_NoName ?n_Twice ?n_Full ?n_NoSuch ?n_NoPaper ?n_NoDeed ?n_NoSize ?n_L_mixed ?l_L_mixed ?c_L_mixed ?k_L_mixed ?n_L_purse ?l_L_purse ?c_L_purse ?k_L_purse ?n_L_draw ?l_L_draw ?c_L_draw ?k_L_draw ?n_L_place ?l_L_place ?c_L_place ?k_L_place ?n_L_setup ?l_L_setup ?c_L_setup ?k_L_setup ?n_L_setup_text ?l_L_setup_text ?c_L_setup_text ?k_L_setup_text ?n_L_whole ?l_L_whole ?c_L_whole ?k_L_whole ?n_L_setup_of ?l_L_setup_of ?c_L_setup_of ?k_L_setup_of ?n_must ?l_must ?c_must ?k_must ?n_read_place ?l_read_place ?c_read_place ?k_read_place ?n_read_sign ?l_read_sign ?c_read_sign ?k_read_sign ?n_read_setup ?l_read_setup ?c_read_setup ?k_read_setup ?n_L_read ?l_L_read ?c_L_read ?k_L_read ?n_L_same ?l_L_same ?c_L_same ?k_L_same ?n_L_word ?l_L_word ?c_L_word ?k_L_word ?n_L_right ?l_L_right ?c_L_right ?k_L_right ?n_L_bent_text ?l_L_bent_text ?c_L_bent_text ?k_L_bent_text ?n_L_odd ?l_L_odd ?c_L_odd ?k_L_odd ?n_law ?l_law ?c_law ?k_law ?n_FIGURES ?n_ROWS ?z_range ?z_len ?z_abs ?z_str ?z_int ?z_all ?z_isinstance ?z_tuple ?z_list ?z_bool ?z_ValueError ?fa_x_NoText ?fa_k_NoText ?fa_b_NoText ?fa_t_NoText ?fa_h_NoText ?fa_k_MillError ?fa_b_MillError ?fa_t_MillError ?fa_h_MillError ?fa_hg_NoText ?fa_hk_NoText ?fa_ha_NoText ?fa_hm_NoText ?fa_s_NoText_MillError ?fa_hn_ ?fa_ht_ ?fa_i_NoMachine ?fa_se_NoMachine ?fa_t_NoMachine ?fa_s_NoText_NoMachine ?fa_sn_NoMachine ?fa_i_NoText ?fa_se_NoText ?fa_s_NoText_NoText ?fa_sn_NoText ?fa_i_NoName ?fa_se_NoName ?fa_t_NoName ?fa_s_NoText_NoName ?fa_sn_NoName ?fa_i_Twice ?fa_se_Twice ?fa_t_Twice ?fa_s_NoText_Twice ?fa_sn_Twice ?fa_i_Full ?fa_se_Full ?fa_t_Full ?fa_s_NoText_Full ?fa_sn_Full ?fa_i_NoSuch ?fa_se_NoSuch ?fa_t_NoSuch ?fa_s_NoText_NoSuch ?fa_sn_NoSuch ?fa_i_NoPaper ?fa_se_NoPaper ?fa_t_NoPaper ?fa_s_NoText_NoPaper ?fa_sn_NoPaper ?fa_i_NoDeed ?fa_se_NoDeed ?fa_t_NoDeed ?fa_s_NoText_NoDeed ?fa_sn_NoDeed ?fa_i_NoSize ?fa_se_NoSize ?fa_t_NoSize ?fa_s_NoText_NoSize ?fa_sn_NoSize ?fa_i_MillError ?fa_se_MillError ?fa_sn_MillError ?fa_s_NoText_ValueError
    (case n_NoText => k_is); (case n_MillError => k_is); (case n_NoMachine => k_is); (case n_NoName => k_is); (case n_Twice => k_is); (case n_Full => k_is); (case n_NoSuch => k_is); (case n_NoPaper => k_is)
    (case n_NoDeed => k_is); (case n_NoSize => k_is); (case n_L_mixed => k_is); (case l_L_mixed => k_is); (case c_L_mixed => k_is); (case k_L_mixed => k_is); (case n_L_purse => k_is); (case l_L_purse => k_is)
    (case c_L_purse => k_is); (case k_L_purse => k_is); (case n_L_draw => k_is); (case l_L_draw => k_is); (case c_L_draw => k_is); (case k_L_draw => k_is); (case n_L_place => k_is); (case l_L_place => k_is)
    (case c_L_place => k_is); (case k_L_place => k_is); (case n_L_setup => k_is); (case l_L_setup => k_is); (case c_L_setup => k_is); (case k_L_setup => k_is); (case n_L_setup_text => k_is); (case l_L_setup_text => k_is)
    (case c_L_setup_text => k_is); (case k_L_setup_text => k_is); (case n_L_whole => k_is); (case l_L_whole => k_is); (case c_L_whole => k_is); (case k_L_whole => k_is); (case n_L_setup_of => k_is); (case l_L_setup_of => k_is)
    (case c_L_setup_of => k_is); (case k_L_setup_of => k_is); (case n_must => k_is); (case l_must => k_is); (case c_must => k_is); (case k_must => k_is); (case n_read_place => k_is); (case l_read_place => k_is)
    (case c_read_place => k_is); (case k_read_place => k_is); (case n_read_sign => k_is); (case l_read_sign => k_is); (case c_read_sign => k_is); (case k_read_sign => k_is); (case n_read_setup => k_is); (case l_read_setup => k_is)
    (case c_read_setup => k_is); (case k_read_setup => k_is); (case n_L_read => k_is); (case l_L_read => k_is); (case c_L_read => k_is); (case k_L_read => k_is); (case n_L_same => k_is); (case l_L_same => k_is)
    (case c_L_same => k_is); (case k_L_same => k_is); (case n_L_word => k_is); (case l_L_word => k_is); (case c_L_word => k_is); (case k_L_word => k_is); (case n_L_right => k_is); (case l_L_right => k_is)
    (case c_L_right => k_is); (case k_L_right => k_is); (case n_L_bent_text => k_is); (case l_L_bent_text => k_is); (case c_L_bent_text => k_is); (case k_L_bent_text => k_is); (case n_L_odd => k_is); (case l_L_odd => k_is)
    (case c_L_odd => k_is); (case k_L_odd => k_is); (case n_law => k_is); (case l_law => k_is); (case c_law => k_is); (case k_law => k_is); (case n_FIGURES => k_is); (case n_ROWS => k_is)
    (case z_range => k_is); (case z_len => k_is); (case z_abs => k_is); (case z_str => k_is); (case z_int => k_is); (case z_all => k_is); (case z_isinstance => k_is); (case z_tuple => k_is)
    (case z_list => k_is); (case z_bool => k_is); (case z_ValueError => k_is); (case fa_x_NoText => k_exc); (case fa_k_NoText => k_is); (case fa_b_NoText => k_is); (case fa_t_NoText => k_is); (case fa_h_NoText => k_is)
    (case fa_k_MillError => k_is); (case fa_b_MillError => k_is); (case fa_t_MillError => k_is); (case fa_h_MillError => k_is); (case fa_hg_NoText => k_is); (case fa_hk_NoText => k_is); (case fa_ha_NoText => k_is); (case fa_hm_NoText => k_is)
    (case fa_s_NoText_MillError => first | rfl | k_is); (case fa_hn_ => k_is); (case fa_ht_ => k_is); (case fa_i_NoMachine => k_is); (case fa_se_NoMachine => first | rfl | k_is); (case fa_t_NoMachine => k_is); (case fa_s_NoText_NoMachine => first | rfl | k_is); (case fa_sn_NoMachine => k_is)
    (case fa_i_NoText => k_is); (case fa_se_NoText => first | rfl | k_is); (case fa_s_NoText_NoText => first | rfl | k_is); (case fa_sn_NoText => k_is); (case fa_i_NoName => k_is); (case fa_se_NoName => first | rfl | k_is); (case fa_t_NoName => k_is); (case fa_s_NoText_NoName => first | rfl | k_is)
    (case fa_sn_NoName => k_is); (case fa_i_Twice => k_is); (case fa_se_Twice => first | rfl | k_is); (case fa_t_Twice => k_is); (case fa_s_NoText_Twice => first | rfl | k_is); (case fa_sn_Twice => k_is); (case fa_i_Full => k_is); (case fa_se_Full => first | rfl | k_is)
    (case fa_t_Full => k_is); (case fa_s_NoText_Full => first | rfl | k_is); (case fa_sn_Full => k_is); (case fa_i_NoSuch => k_is); (case fa_se_NoSuch => first | rfl | k_is); (case fa_t_NoSuch => k_is); (case fa_s_NoText_NoSuch => first | rfl | k_is); (case fa_sn_NoSuch => k_is)
    (case fa_i_NoPaper => k_is); (case fa_se_NoPaper => first | rfl | k_is); (case fa_t_NoPaper => k_is); (case fa_s_NoText_NoPaper => first | rfl | k_is); (case fa_sn_NoPaper => k_is); (case fa_i_NoDeed => k_is); (case fa_se_NoDeed => first | rfl | k_is); (case fa_t_NoDeed => k_is)
    (case fa_s_NoText_NoDeed => first | rfl | k_is); (case fa_sn_NoDeed => k_is); (case fa_i_NoSize => k_is); (case fa_se_NoSize => first | rfl | k_is); (case fa_t_NoSize => k_is); (case fa_s_NoText_NoSize => first | rfl | k_is); (case fa_sn_NoSize => k_is); (case fa_i_MillError => k_is)
    (case fa_se_MillError => first | rfl | k_is); (case fa_sn_MillError => k_is); (case fa_s_NoText_ValueError => k_is)
#print axioms PySem.Challenge.cw_endnever_k14_texts_of_no_setup_holds
