import PyProof.Rows.All
import Wide.All
import OpenK.AllK
import Wide.FinOn
import HandS.ForMost
import HandS.SortRule
import HandS.IsInst
import HandS.TupAny
import HandS.TupMul
import HandS.Walk
import HandS.More
import HandS.ListItems
import HandS.Wide
import KE.KTupSum
import HandS.Style
import HandS.Deep
import HandS.SortInts
import KE.GoesMore
import KE.KDictKeyed
import KE.KeyNested
import HandS.Exc
import HandS.ExcOwn
import HandS.ExcIs
import HandS.WordsExc
import HandS.TryOnly
import KE.KIsAll
import HandS.SetFor
import PySem.Challenge.RW_endnever_k77_no_machines_walked
set_option Elab.async false
set_option maxRecDepth 100000
set_option maxHeartbeats 4000000
namespace E
open PySem L2
/-! ### small words of our own -/
theorem inr_int {x : V} {ns : List Int} {i : Nat} (h : (ns.map V.int)[i]? = some x) : ∃ z, x = V.int z ∧ ns[i]? = some z := by
  rw [List.getElem?_map] at h
  cases e : ns[i]? with
  | none => rw [e] at h; cases h
  | some z => rw [e] at h; exact ⟨z, (Option.some.inj h).symm, rfl⟩
/-- F stands in H, whatever comes to it -/
theorem sm_new {F H : Hp} {p : Addr} {o : HO} (s : Same F H) (n : H p = Option.none) : Same F (upd H p o) := fun b u e => by
  rw [upd_ne (ne_of_none (s b u e) n)]
  exact s b u e
theorem sm_set {F H : Hp} {p : Addr} {o : HO} (s : Same F H) (n : F p = Option.none) : Same F (upd H p o) := fun b u e => by
  rw [upd_ne (ne_of_none e n)]
  exact s b u e
theorem sm_up {H : Hp} {p : Addr} {o : HO} (n : H p = none) : Same H (upd H p o) := sm_new (Same.refl H) n
theorem cut_63 {ns : List Int} (h : ns.length ≤ 63) : cutV (ns.map V.int) none (some 63) = ns.map V.int := by
  unfold cutV
  have e1 : HT.sIx (ns.map V.int).length 0 none = 0 := rfl
  have e2 : HT.sIx (ns.map V.int).length (ns.map V.int).length (some 63) = (ns.map V.int).length := by
    simp only [HT.sIx, List.length_map]
    rw [if_neg (by decide), show (63 : Int).toNat = 63 from rfl]
    omega
  rw [e1, e2, List.drop_zero, Nat.sub_zero, List.take_length]
theorem ifT {c : Bool} {A B : Prop} (h : c = true) (a : A) : if c = true then A else B := by
  rw [if_pos h]; exact a
theorem ifF {c : Bool} {A B : Prop} (h : c = false) (b : B) : if c = true then A else B := by
  rw [h, if_neg Bool.false_ne_true]; exact b
theorem one_le : 1 ≤ sizeLine := by decide
theorem two_le : 2 ≤ sizeLine := by decide
theorem three_le : 3 ≤ sizeLine := by decide
theorem five_le : 5 ≤ sizeLine := by decide
theorem nil_le : 0 ≤ sizeLine := by decide
theorem lt_size {n : Nat} (h : n ≤ 1000000) : n < sizeLine := Nat.lt_of_le_of_lt h (by decide)
theorem le_size {n : Nat} (h : n ≤ 1000000) : n ≤ sizeLine := Nat.le_of_lt (lt_size h)
theorem pi_listK {X : Cx} {K : PySem.W.Frag} {tg l : Expr} {tl : TE} (e : X.K = K) (h : PE X l tl) : PI X tg l (iList K tl) := by
  subst e; exact pi_list h
theorem pi_tupK {X : Cx} {K : PySem.W.Frag} {tg l : Expr} {tl : TE} (e : X.K = K) (h : PE X l tl) : PI X tg l (iTup K tl) := by
  subst e; exact pi_tup h
theorem crK {X : Cx} {K : PySem.W.Frag} {f : Value} {r : PySem.W.Frag → List V → Hp → VK → Prop} (e : X.K = K) (h : CallR X f (r X.K)) : CallR X f (r K) := by
  subst e; exact h
theorem orK {X : Cx} {K : PySem.W.Frag} {f : Value → Value → Sem Value} {r : PySem.W.Frag → R2} (e : X.K = K) (h : OpR X f (r X.K)) : OpR X f (r K) := by
  subst e; exact h
theorem ixK {X : Cx} {K : PySem.W.Frag} {r : PySem.W.Frag → R2} (e : X.K = K) (h : IxR X (r X.K)) : IxR X (r K) := by
  subst e; exact h
theorem slK {X : Cx} {K : PySem.W.Frag} {r : PySem.W.Frag → V → Option Int → Option Int → Hp → VK → Prop} (e : X.K = K) (h : SlR X (r X.K)) : SlR X (r K) := by
  subst e; exact h
def rLenQ (K : PySem.W.Frag) : List V → Hp → VK → Prop := fun xs H Q => ∃ p ys, xs = [.ref p] ∧ (SqL K H p ys ∨ SqT K H p ys) ∧ Q (.int ys.length) H
def rListQ (K : PySem.W.Frag) : List V → Hp → VK → Prop := fun xs H Q => ∃ p ys, xs = [.ref p] ∧ (SqL K H p ys ∨ SqT K H p ys) ∧ ∀ l, H l = none → Q (.ref l) (upd H l (.lst ys))
def rTupQ (K : PySem.W.Frag) : List V → Hp → VK → Prop := fun xs H Q => ∃ p ys, xs = [.ref p] ∧ ((SqL K H p ys ∧ ∀ l, H l = none → Q (.ref l) (upd H l (.tup ys))) ∨ (SqT K H p ys ∧ Q (.ref p) H))
theorem ne_of_none' {F H : Hp} {q : Addr} (s : Same F H) (n : H q = none) : F q = none := s.free n
/-- a comprehension without a test: its item comes in -/
theorem yes {σ : St} {H : Hp} {A : Hp → Prop} {B : Hp → Prop} (a : A H) : tYes σ H (fun b H3 => if b = true then A H3 else B H3) := by
  show if true = true then A H else B H
  rw [if_pos rfl]; exact a
theorem call_lenQ {X : Cx} : CallR X (.builtin "len") (rLenQ X.K) := call_len_seq
theorem call_listQ {X : Cx} : CallR X (.type "list") (rListQ X.K) := call_list_of
theorem call_tupQ {X : Cx} : CallR X (.type "tuple") (rTupQ X.K) := call_tuple_of
@[irreducible] def rDictP (K : PySem.W.Frag) : List V → Hp → VK → Prop := fun xs H Q => ∃ (a : Addr) (ps : List Addr) (kvs : List (Key × V)), xs = [.ref a] ∧ SqL K H a (ps.map V.ref) ∧ Paired (fun p kv => SqT K H p [kV kv.1, kv.2]) ps kvs ∧ ∀ p, H p = none → Q (.ref p) (upd H p (.dK (mergeK [] kvs)))
theorem call_dictQ {X : Cx} (hc : X.calm = true) : CallR X (.type "dict") (rDictP X.K) := by
  unfold rDictP
  exact call_dictP hc
@[irreducible] def rSortQ (K : PySem.W.Frag) : List V → Hp → VK → Prop := rSortedPO K
theorem call_sortQ {X : Cx} : CallR X (.builtin "sorted") (rSortQ X.K) := by
  unfold rSortQ
  exact cr_sortedPO
theorem pg_tupK {X : Cx} {K : PySem.W.Frag} {es : List Expr} {k n : Nat} {t : TGs} {pos : Pos} (e : X.K = K) (hc : X.calm = true) (h : PGs X es t) (hn : (assignEach es X.env).length = n := by rfl) (hst : (assignEach es X.env).findIdx? (·.1) = none := by rfl) : PG X (.Tuple es k pos) (gTup K n t) := by
  subst e; exact pg_tup hc h hn hst
theorem pe_fldK {X : Cx} {K : PySem.W.Frag} {e : Expr} {f : Str} {pos : Pos} {ta : TE} (ek : X.K = K) (he : PE X e ta) (hb : attributeBase e f X.env (eval e X.env) = eval e X.env) : PE X (.Attribute e f pos) (tFld K ta f) := by
  subst ek; exact pe_fld he hb
/-! ### what stands, what is new: F the frozen part (nobody changes it), H the heap; from F, H to F', H' with changes at mu alone -/
structure Gr (mu : Addr → Prop) (F H F' H' : Hp) : Prop where
  ff : Same F F'
  fh : Same F' H'
  nw : ∀ c o, F' c = some o → F c = some o ∨ H c = none
  fr : ∀ c o, H c = some o → ¬ mu c → H' c = some o
  th : ∀ c, H' c = none → H c = none
/-- nothing but new things -/
abbrev mu0 : Addr → Prop := fun _ => False
/-- the purse alone -/
abbrev muP (p : Addr) : Addr → Prop := fun c => c = p
section
variable {mu : Addr → Prop} {F H F1 H1 F2 H2 : Hp} {q : Addr} {o u : HO}
theorem Gr.refl (s : Same F H) : Gr mu F H F H := ⟨fun _ _ h => h, s, fun _ _ h => .inl h, fun _ _ h _ => h, fun _ h => h⟩
theorem Gr.trans (a : Gr mu F H F1 H1) (b : Gr mu F1 H1 F2 H2) : Gr mu F H F2 H2 where
  ff := fun c o h => b.ff c o (a.ff c o h)
  fh := b.fh
  nw := fun c o h => by
    rcases b.nw c o h with h | h
    · exact a.nw c o h
    · exact .inr (a.th c h)
  fr := fun c o h m => b.fr c o (a.fr c o h m) m
  th := fun c h => a.th c (b.th c h)
/-- a part that changes what is ours, or what mu has -/
theorem Gr.thn {mu' : Addr → Prop} (a : Gr mu F H F1 H1) (b : Gr mu' F1 H1 F2 H2) (k : ∀ c, mu' c → mu c ∨ H c = none) : Gr mu F H F2 H2 where
  ff := fun c o h => b.ff c o (a.ff c o h)
  fh := b.fh
  nw := fun c o h => by
    rcases b.nw c o h with h | h
    · exact a.nw c o h
    · exact .inr (a.th c h)
  fr := fun c o h m => b.fr c o (a.fr c o h m) fun z => (k c z).elim m fun n => by rw [n] at h; cases h
  th := fun c h => a.th c (b.th c h)
theorem Gr.weak {mu' : Addr → Prop} (a : Gr mu F H F1 H1) (m : ∀ c, mu c → mu' c) : Gr mu' F H F1 H1 :=
  ⟨a.ff, a.fh, a.nw, fun c o h n => a.fr c o h fun z => n (m c z), a.th⟩
theorem Gr.of0 (a : Gr mu0 F H F1 H1) : Gr mu F H F1 H1 := a.weak fun _ z => z.elim
/-- a new thing that nobody will change -/
theorem Gr.new (a : Gr mu F H F1 H1) (n : H1 q = none) : Gr mu F H (upd F1 q o) (upd H1 q o) where
  ff := fun c o h => by
    rw [upd_ne (ne_of_none (a.fh c o (a.ff c o h)) n)]
    exact a.ff c o h
  fh := fun c u h => by
    by_cases e : c = q
    · subst e; rw [upd_same] at h ⊢; exact h
    · rw [upd_ne e] at h ⊢; exact a.fh c u h
  nw := fun c u h => by
    by_cases e : c = q
    · subst e; exact .inr (a.th _ n)
    · rw [upd_ne e] at h; exact a.nw c u h
  fr := fun c u h m => by
    rw [upd_ne (ne_of_none (a.fr c u h m) n)]
    exact a.fr c u h m
  th := fun c h => by
    by_cases e : c = q
    · subst e; rw [upd_same] at h; cases h
    · rw [upd_ne e] at h; exact a.th c h
/-- a new thing that may be changed yet -/
theorem Gr.own (a : Gr mu F H F1 H1) (n : H1 q = none) : Gr mu F H F1 (upd H1 q o) where
  ff := a.ff
  fh := fun c u h => by
    rw [upd_ne (ne_of_none (a.fh c u h) n)]
    exact a.fh c u h
  nw := a.nw
  fr := fun c u h m => by
    rw [upd_ne (ne_of_none (a.fr c u h m) n)]
    exact a.fr c u h m
  th := fun c h => by
    by_cases e : c = q
    · subst e; rw [upd_same] at h; cases h
    · rw [upd_ne e] at h; exact a.th c h
/-- a change of what is ours, and not frozen -/
theorem Gr.set (a : Gr mu F H F1 H1) (f : F1 q = none) (m : H q = none ∨ mu q) : Gr mu F H F1 (upd H1 q o) where
  ff := a.ff
  fh := fun c u h => by
    rw [upd_ne (ne_of_none h f)]
    exact a.fh c u h
  nw := a.nw
  fr := fun c u h k => by
    have e : c ≠ q := by
      rintro rfl
      rcases m with m | m
      · rw [m] at h; cases h
      · exact k m
    rw [upd_ne e]
    exact a.fr c u h k
  th := fun c h => by
    by_cases e : c = q
    · subst e; rw [upd_same] at h; cases h
    · rw [upd_ne e] at h; exact a.th c h
/-- what was ours is changed no more -/
theorem Gr.frz (a : Gr mu F H F1 H1) (h : H1 q = some o) (n : H q = none) (f : F1 q = none) : Gr mu F H (upd F1 q o) H1 where
  ff := fun c u e => by
    rw [upd_ne (ne_of_none (a.ff c u e) f)]
    exact a.ff c u e
  fh := fun c u e => by
    by_cases k : c = q
    · subst k; rw [upd_same] at e; cases e; exact h
    · rw [upd_ne k] at e; exact a.fh c u e
  nw := fun c u e => by
    by_cases k : c = q
    · subst k; exact .inr n
    · rw [upd_ne k] at e; exact a.nw c u e
  fr := a.fr
  th := a.th
theorem Gr.free (a : Gr mu F H F1 H1) (n : H1 q = none) : F1 q = none := a.fh.free n
end
/-- an owned thing: new since H, not frozen, it is o now -/
structure Ow (H F H1 : Hp) (q : Addr) (o : HO) : Prop where
  n : H q = none
  f : F q = none
  h : H1 q = some o
section
variable {mu mu' : Addr → Prop} {H0 F H F1 H1 : Hp} {q r : Addr} {o u : HO}
theorem Ow.call (w : Ow H0 F H q o) (a : Gr mu F H F1 H1) (m : ¬ mu q) : Ow H0 F1 H1 q o :=
  ⟨w.n, (by
    cases e : F1 q with
    | none => rfl
    | some z =>
      rcases a.nw q z e with k | k
      · rw [w.f] at k; cases k
      · rw [w.h] at k; cases k), a.fr q o w.h m⟩
theorem Ow.ne (w : Ow H0 F H q o) (n : H r = none) : q ≠ r := ne_of_none w.h n
theorem Ow.new (w : Ow H0 F H q o) (n : H r = none) : Ow H0 (upd F r u) (upd H r u) q o :=
  ⟨w.n, by rw [upd_ne (w.ne n)]; exact w.f, by rw [upd_ne (w.ne n)]; exact w.h⟩
theorem Ow.own (w : Ow H0 F H q o) (n : H r = none) : Ow H0 F (upd H r u) q o :=
  ⟨w.n, w.f, by rw [upd_ne (w.ne n)]; exact w.h⟩
theorem Ow.mk1 (a : Gr mu H0' H0 F H) (n : H q = none) : Ow H0 F (upd H q o) q o := ⟨a.th q n, a.free n, upd_same⟩
theorem Ow.set (w : Ow H0 F H q o) : Ow H0 F (upd H q u) q u := ⟨w.n, w.f, upd_same⟩
theorem Ow.other (w : Ow H0 F H q o) (e : q ≠ r) : Ow H0 F (upd H r u) q o := ⟨w.n, w.f, by rw [upd_ne e]; exact w.h⟩
end
/-! ### what stands for a datum -/
def All2 {α β : Type} (r : α → β → Prop) (xs : List α) (ys : List β) : Prop := xs.length = ys.length ∧ ∀ (i : Nat) (x : α) (y : β), xs[i]? = some x → ys[i]? = some y → r x y
section
variable {α β : Type} {r s : α → β → Prop} {xs xs' : List α} {ys ys' : List β}
theorem All2.nil : All2 r [] [] := ⟨rfl, fun i x y h => by simp at h⟩
theorem All2.get (a : All2 r xs ys) {i : Nat} {y : β} (h : ys[i]? = some y) : ∃ x, xs[i]? = some x ∧ r x y := by
  have l := (List.getElem?_eq_some_iff.mp h).1
  have l' : i < xs.length := by rw [a.1]; exact l
  exact ⟨xs[i], List.getElem?_eq_getElem l', a.2 i _ y (List.getElem?_eq_getElem l') h⟩
theorem All2.get' (a : All2 r xs ys) {i : Nat} {x : α} (h : xs[i]? = some x) : ∃ y, ys[i]? = some y ∧ r x y := by
  have l := (List.getElem?_eq_some_iff.mp h).1
  have l' : i < ys.length := by rw [← a.1]; exact l
  exact ⟨ys[i], List.getElem?_eq_getElem l', a.2 i x _ h (List.getElem?_eq_getElem l')⟩
theorem All2.imp (a : All2 r xs ys) (f : ∀ x y, r x y → s x y) : All2 s xs ys := ⟨a.1, fun i x y h k => f x y (a.2 i x y h k)⟩
theorem All2.app (a : All2 r xs ys) (b : All2 r xs' ys') : All2 r (xs ++ xs') (ys ++ ys') := by
  refine ⟨by rw [List.length_append, List.length_append, a.1, b.1], fun i x y h k => ?_⟩
  by_cases l : i < xs.length
  · rw [List.getElem?_append_left l] at h
    rw [List.getElem?_append_left (by rw [← a.1]; exact l)] at k
    exact a.2 i x y h k
  · rw [List.getElem?_append_right (by omega)] at h
    rw [List.getElem?_append_right (by rw [← a.1]; omega), ← a.1] at k
    exact b.2 _ x y h k
theorem All2.one {x : α} {y : β} (h : r x y) : All2 r [x] [y] := ⟨rfl, fun i a b p q => by
  cases i with
  | zero => simp at p q; subst p; subst q; exact h
  | succ n => simp at p⟩
theorem All2.cons {x : α} {y : β} (h : r x y) (a : All2 r xs ys) : All2 r (x :: xs) (y :: ys) := (All2.one h).app a
theorem All2.set (a : All2 r xs ys) {x : α} {y : β} (h : r x y) (j : Nat) : All2 r (xs.set j x) (ys.set j y) := by
  refine ⟨by rw [List.length_set, List.length_set]; exact a.1, fun i u v p q => ?_⟩
  by_cases e : j = i
  · subst e
    rw [List.getElem?_set_self'] at p q
    cases e1 : xs[j]? with
    | none => rw [e1] at p; cases p
    | some z =>
      cases e2 : ys[j]? with
      | none => rw [e2] at q; cases q
      | some z2 =>
        rw [e1] at p; rw [e2] at q
        cases p; cases q
        exact h
  · rw [List.getElem?_set_ne e] at p q
    exact a.2 i u v p q
theorem All2.take (a : All2 r xs ys) (n : Nat) : All2 r (xs.take n) (ys.take n) := by
  refine ⟨by rw [List.length_take, List.length_take, a.1], fun i u v p q => ?_⟩
  rw [List.getElem?_take] at p q
  split at p
  · rw [if_pos (by assumption)] at q; exact a.2 i u v p q
  · cases p
theorem All2.drop (a : All2 r xs ys) (n : Nat) : All2 r (xs.drop n) (ys.drop n) := by
  refine ⟨by rw [List.length_drop, List.length_drop, a.1], fun i u v p q => ?_⟩
  rw [List.getElem?_drop] at p q
  exact a.2 _ u v p q
end
class Dat (α : Type) where
  rep : Hp → V → α → Prop
  mono : ∀ {H H' : Hp} {v : V} {d : α}, Same H H' → rep H v d → rep H' v d
  py : α → PyData
  dp : ∀ {K : PySem.W.Frag} {H : Hp} {v : V} {d : α}, rep H v d → Dp K H v (py d)
  can : ∀ d, (py d).canLay0 = true
  dep : Nat
  depth : ∀ d, (py d).depth ≤ dep
  eqv : ∀ a b, PyData.eqv (py a) (py b) = true ↔ a = b
section
variable {α β γ : Type}
/-- v stands for d in H -/
abbrev Is [Dat α] (H : Hp) (v : V) (d : α) : Prop := Dat.rep H v d
theorem Is.up [Dat α] {H H' : Hp} {v : V} {d : α} (h : Is H v d) (s : Same H H') : Is H' v d := Dat.mono s h
abbrev IsAll [Dat α] (H : Hp) (xs : List V) (ds : List α) : Prop := All2 (fun v d => Is H v d) xs ds
theorem IsAll.up [Dat α] {H H' : Hp} {xs : List V} {ds : List α} (h : IsAll H xs ds) (s : Same H H') : IsAll H' xs ds := h.imp fun _ _ z => Is.up z s
theorem dp_all [Dat α] {K : PySem.W.Frag} {H : Hp} : ∀ {xs : List V} {ds : List α}, IsAll H xs ds → DpAll K H xs (ds.map Dat.py)
  | [], [], _ => .nil
  | [], d :: ds, h => by have := h.1; simp at this
  | x :: xs, [], h => by have := h.1; simp at this
  | x :: xs, d :: ds, h => .cons (Dat.dp (h.2 0 x d rfl rfl)) (dp_all ⟨by have := h.1; simpa using this, fun i a b p q => h.2 (i + 1) a b (by simpa using p) (by simpa using q)⟩)
theorem can_all [Dat α] : ∀ ds : List α, PyData.canLayAll0 (ds.map Dat.py) = true
  | [] => rfl
  | d :: ds => by
    show (PyData.canLay0 (Dat.py d) && PyData.canLayAll0 (ds.map Dat.py)) = true
    rw [Dat.can, can_all ds]; rfl
theorem depth_all [Dat α] : ∀ ds : List α, PyData.depthAll (ds.map Dat.py) ≤ Dat.dep α
  | [] => Nat.zero_le _
  | d :: ds => by
    show max (PyData.depth (Dat.py d)) (PyData.depthAll (ds.map Dat.py)) ≤ _
    exact Nat.max_le.mpr ⟨Dat.depth d, depth_all ds⟩
theorem eqv_all [Dat α] : ∀ a b : List α, PyData.eqvAll (a.map Dat.py) (b.map Dat.py) = true ↔ a = b
  | [], [] => by simp [PyData.eqvAll]
  | [], _ :: _ => by simp [PyData.eqvAll]
  | _ :: _, [] => by simp [PyData.eqvAll]
  | x :: xs, y :: ys => by
    rw [List.map_cons, List.map_cons, PyData.eqvAll, Bool.and_eq_true, Dat.eqv, eqv_all xs ys, List.cons.injEq]
instance : Dat Int where
  rep := fun _ v i => v = .int i
  mono := fun _ h => h
  py := .int
  dp := fun h => h ▸ .int _
  can := fun _ => rfl
  dep := 0
  depth := fun _ => Nat.le_refl _
  eqv := fun a b => by simp [PyData.eqv]
instance : Dat Bool where
  rep := fun _ v i => v = .bl i
  mono := fun _ h => h
  py := .bool
  dp := fun h => h ▸ .bl _
  can := fun _ => rfl
  dep := 0
  depth := fun _ => Nat.le_refl _
  eqv := fun a b => by simp [PyData.eqv]
/-- a list of data -/
instance [Dat α] : Dat (List α) where
  rep := fun H v l => ∃ a xs, v = .ref a ∧ H a = some (.lst xs) ∧ IsAll H xs l
  mono := fun s h => by
    obtain ⟨a, xs, e, h, i⟩ := h
    exact ⟨a, xs, e, s _ _ h, IsAll.up i s⟩
  py := fun l => .list (l.map Dat.py)
  dp := fun h => by
    obtain ⟨a, xs, rfl, h, i⟩ := h
    exact .lst (SqL.of h) (dp_all i)
  can := fun d => can_all d
  dep := Dat.dep α + 1
  depth := fun d => Nat.succ_le_succ (depth_all d)
  eqv := fun a b => by rw [PyData.eqv]; exact eqv_all a b
/-- a tuple of data of one kind -/
structure Tup (α : Type) where
  l : List α
  deriving DecidableEq
instance [Dat α] : Dat (Tup α) where
  rep := fun H v l => ∃ a xs, v = .ref a ∧ H a = some (.tup xs) ∧ IsAll H xs l.l
  mono := fun s h => by
    obtain ⟨a, xs, e, h, i⟩ := h
    exact ⟨a, xs, e, s _ _ h, IsAll.up i s⟩
  py := fun l => .tuple (l.l.map Dat.py)
  dp := fun h => by
    obtain ⟨a, xs, rfl, h, i⟩ := h
    exact .tup (SqT.of h) (dp_all i)
  can := fun d => can_all d.l
  dep := Dat.dep α + 1
  depth := fun d => Nat.succ_le_succ (depth_all d.l)
  eqv := fun a b => by
    rw [PyData.eqv, eqv_all]
    obtain ⟨a⟩ := a; obtain ⟨b⟩ := b
    simp
/-- a pair; a triple -/
structure T2 (α β : Type) where
  a : α
  b : β
  deriving DecidableEq
structure T3 (α β γ : Type) where
  a : α
  b : β
  c : γ
  deriving DecidableEq
instance [Dat α] [Dat β] : Dat (T2 α β) where
  rep := fun H v d => ∃ p x y, v = .ref p ∧ H p = some (.tup [x, y]) ∧ Is H x d.a ∧ Is H y d.b
  mono := fun s h => by
    obtain ⟨p, x, y, e, h, i, j⟩ := h
    exact ⟨p, x, y, e, s _ _ h, Is.up i s, Is.up j s⟩
  py := fun d => .tuple [Dat.py d.a, Dat.py d.b]
  dp := fun h => by
    obtain ⟨p, x, y, rfl, h, i, j⟩ := h
    exact .tup (SqT.of h) (.cons (Dat.dp i) (.cons (Dat.dp j) .nil))
  can := fun d => by
    show (PyData.canLay0 (Dat.py d.a) && (PyData.canLay0 (Dat.py d.b) && true)) = true
    rw [Dat.can, Dat.can]; rfl
  dep := max (Dat.dep α) (Dat.dep β) + 1
  depth := fun d => by
    have h1 := Dat.depth d.a
    have h2 := Dat.depth d.b
    show max (PyData.depth (Dat.py d.a)) (max (PyData.depth (Dat.py d.b)) 0) + 1 ≤ _
    omega
  eqv := fun a b => by
    obtain ⟨a, a'⟩ := a; obtain ⟨b, b'⟩ := b
    simp [PyData.eqv, PyData.eqvAll, Dat.eqv]
instance [Dat α] [Dat β] [Dat γ] : Dat (T3 α β γ) where
  rep := fun H v d => ∃ p x y z, v = .ref p ∧ H p = some (.tup [x, y, z]) ∧ Is H x d.a ∧ Is H y d.b ∧ Is H z d.c
  mono := fun s h => by
    obtain ⟨p, x, y, z, e, h, i, j, k⟩ := h
    exact ⟨p, x, y, z, e, s _ _ h, Is.up i s, Is.up j s, Is.up k s⟩
  py := fun d => .tuple [Dat.py d.a, Dat.py d.b, Dat.py d.c]
  dp := fun h => by
    obtain ⟨p, x, y, z, rfl, h, i, j, k⟩ := h
    exact .tup (SqT.of h) (.cons (Dat.dp i) (.cons (Dat.dp j) (.cons (Dat.dp k) .nil)))
  can := fun d => by
    show (PyData.canLay0 (Dat.py d.a) && (PyData.canLay0 (Dat.py d.b) && (PyData.canLay0 (Dat.py d.c) && true))) = true
    rw [Dat.can, Dat.can, Dat.can]; rfl
  dep := max (Dat.dep α) (max (Dat.dep β) (Dat.dep γ)) + 1
  depth := fun d => by
    have h1 := Dat.depth d.a
    have h2 := Dat.depth d.b
    have h3 := Dat.depth d.c
    show max (PyData.depth (Dat.py d.a)) (max (PyData.depth (Dat.py d.b)) (max (PyData.depth (Dat.py d.c)) 0)) + 1 ≤ _
    omega
  eqv := fun a b => by
    obtain ⟨a, a', a''⟩ := a; obtain ⟨b, b', b''⟩ := b
    simp [PyData.eqv, PyData.eqvAll, Dat.eqv]
/-- None, or a datum that is a tuple or a list -/
class Big (α : Type) [Dat α] : Prop where
  big : ∀ d : α, (∃ l, Dat.py d = .tuple l) ∨ ∃ l, Dat.py d = .list l
instance [Dat α] : Big (List α) := ⟨fun d => .inr ⟨_, rfl⟩⟩
instance [Dat α] : Big (Tup α) := ⟨fun d => .inl ⟨_, rfl⟩⟩
instance [Dat α] [Dat β] : Big (T2 α β) := ⟨fun d => .inl ⟨_, rfl⟩⟩
instance [Dat α] [Dat β] [Dat γ] : Big (T3 α β γ) := ⟨fun d => .inl ⟨_, rfl⟩⟩
instance [Dat α] [Big α] : Dat (Option α) where
  rep := fun H v d => match d with
    | none => v = .non
    | some d => Is H v d
  mono := fun {H H' v d} s h => by
    cases d with
    | none => exact h
    | some d => exact Is.up (show Is H v d from h) s
  py := fun d => match d with
    | none => .none
    | some d => Dat.py d
  dp := fun {K H v d} h => by
    cases d with
    | none => cases h; exact .non
    | some d => exact Dat.dp (show Is H v d from h)
  can := fun d => by
    cases d with
    | none => rfl
    | some d => exact Dat.can d
  dep := Dat.dep α
  depth := fun d => by
    cases d with
    | none => exact Nat.zero_le _
    | some d => exact Dat.depth d
  eqv := fun a b => by
    cases a with
    | none =>
      cases b with
      | none => exact ⟨fun _ => rfl, fun _ => rfl⟩
      | some b =>
        refine ⟨fun h => ?_, fun h => nomatch h⟩
        have h : PyData.eqv .none (Dat.py b) = true := h
        rcases Big.big b with ⟨l, e⟩ | ⟨l, e⟩ <;> (rw [e] at h; simp only [PyData.eqv] at h; cases h)
    | some a =>
      cases b with
      | none =>
        refine ⟨fun h => ?_, fun h => nomatch h⟩
        have h : PyData.eqv (Dat.py a) .none = true := h
        rcases Big.big a with ⟨l, e⟩ | ⟨l, e⟩ <;> (rw [e] at h; simp only [PyData.eqv] at h; cases h)
      | some b =>
        show PyData.eqv (Dat.py a) (Dat.py b) = true ↔ _
        rw [Dat.eqv, Option.some.injEq]
end
/-- == and != of data -/
theorem eq_dat0 {α : Type} [Dat α] [DecidableEq α] {a b : α} (hd : Dat.dep α ≤ 64) : SeqAt.shaped (Dat.py a) = true ∧ SeqAt.shaped (Dat.py b) = true ∧ PyData.eqv (Dat.py a) (Dat.py b) = decide (a = b) := by
  refine ⟨?_, ?_, ?_⟩
  · show (PyData.canLay0 _ && decide _) = true
    rw [Dat.can, decide_eq_true (Nat.le_trans (Dat.depth a) hd)]; rfl
  · show (PyData.canLay0 _ && decide _) = true
    rw [Dat.can, decide_eq_true (Nat.le_trans (Dat.depth b) hd)]; rfl
  · rw [Bool.eq_iff_iff, Dat.eqv, decide_eq_true_iff]
theorem eq_dat {α : Type} [Dat α] [DecidableEq α] {K : PySem.W.Frag} {H : Hp} {x y : V} {a b : α} {Q : VK} (ha : Is H x a) (hb : Is H y b) (q : Q (.bl (decide (a = b))) H) (hd : Dat.dep α ≤ 64 := by decide) : rEqD K x y H Q := by
  obtain ⟨h1, h2, h3⟩ := eq_dat0 (a := a) (b := b) hd
  exact ⟨Dat.py a, Dat.py b, Dat.dp ha, Dat.dp hb, h1, h2, by rw [h3]; exact q⟩
theorem ne_dat {α : Type} [Dat α] [DecidableEq α] {K : PySem.W.Frag} {H : Hp} {x y : V} {a b : α} {Q : VK} (ha : Is H x a) (hb : Is H y b) (q : Q (.bl (!decide (a = b))) H) (hd : Dat.dep α ≤ 64 := by decide) : rNeD K x y H Q := by
  obtain ⟨h1, h2, h3⟩ := eq_dat0 (a := a) (b := b) hd
  exact ⟨Dat.py a, Dat.py b, Dat.dp ha, Dat.dp hb, h1, h2, by rw [h3]; exact q⟩
/-! ### machines -/
/-- an entry -/
inductive Ent where
  | emp
  | go (put way row : Int)
  deriving DecidableEq
def entO : Ent → HO
  | .emp => .tup []
  | .go p w r => .tup [.int p, .int w, .int r]
def entP : Ent → PyData
  | .emp => .tuple []
  | .go p w r => .tuple [.int p, .int w, .int r]
instance : Dat Ent where
  rep := fun H v e => ∃ a, v = .ref a ∧ H a = some (entO e)
  mono := fun s h => by obtain ⟨a, e, h⟩ := h; exact ⟨a, e, s _ _ h⟩
  py := entP
  dp := fun {K H v d} h => by
    obtain ⟨a, rfl, h⟩ := h
    cases d with
    | emp => exact .tup (SqT.of h) .nil
    | go p w r => exact .tup (SqT.of h) (.cons (.int _) (.cons (.int _) (.cons (.int _) .nil)))
  can := fun d => by cases d <;> rfl
  dep := 1
  depth := fun d => by cases d <;> simp [entP, PyData.depth, PyData.depthAll]
  eqv := fun a b => by cases a <;> cases b <;> simp [entP, PyData.eqv, PyData.eqvAll]
instance : Big Ent := ⟨fun d => by cases d <;> exact .inl ⟨_, rfl⟩⟩
abbrev Mach := List (List Ent)
/-! ### pairs of ints: a dict's items, sorted ones -/
abbrev PI := T2 Int Int
def dI (l : List PI) : List (Key × V) := l.map fun p => (Sum.inl p.a, V.int p.b)
def look (l : List PI) (x : Int) : Option Int := (l.find? fun p => decide (p.a = x)).map (·.b)
def put (l : List PI) (x v : Int) : List PI := if (l.any fun p => decide (p.a = x)) = true then l.map (fun p => if p.a = x then ⟨p.a, v⟩ else p) else l ++ [⟨x, v⟩]
def merge (l m : List PI) : List PI := m.foldl (fun acc p => put acc p.a p.b) l
theorem key_inl (a b : Int) : ((Sum.inl a : Key) = Sum.inl b) = (a = b) := propext ⟨Sum.inl.inj, fun h => by rw [h]⟩
theorem dI_val (x : Int) : ∀ l : List PI, valV (dI l) (Sum.inl x) = (look l x).map V.int
  | [] => rfl
  | p :: l => by
    have ih := dI_val x l
    show valV ((Sum.inl p.a, V.int p.b) :: dI l) (Sum.inl x) = _
    by_cases e : p.a = x
    · rw [valV_pos (by rw [key_inl]; exact e)]
      simp [look, e]
    · rw [valV_neg (by rw [key_inl]; exact e), ih]
      simp [look, e]
theorem dI_put (l : List PI) (x v : Int) : putK (dI l) (Sum.inl x) (.int v) = dI (put l x v) := by
  have e : ((dI l).any fun kv => decide (kv.1 = Sum.inl x)) = (l.any fun p => decide (p.a = x)) := by
    unfold dI
    rw [List.any_map]
    congr 1
    funext p
    simp only [Function.comp, key_inl]
  unfold putK put
  rw [e]
  by_cases a : (l.any fun p => decide (p.a = x)) = true
  · rw [if_pos a, if_pos a]
    unfold dI
    rw [List.map_map, List.map_map]
    congr 1
    funext p
    simp only [Function.comp, key_inl]
    by_cases h : p.a = x
    · rw [if_pos h, if_pos h]
    · rw [if_neg h, if_neg h]
  · rw [if_neg a, if_neg a]
    unfold dI
    rw [List.map_append]
    rfl
theorem dI_merge (m : List PI) : ∀ l : List PI, mergeK (dI l) (dI m) = dI (merge l m) := by
  induction m with
  | nil => intro l; rfl
  | cons p m ih =>
    intro l
    show mergeK (putK (dI l) (Sum.inl p.a) (.int p.b)) (dI m) = dI (merge (put l p.a p.b) m)
    rw [dI_put]
    exact ih _
theorem look_nil (x : Int) : look [] x = none := rfl
theorem look_cons (p : PI) (l : List PI) (x : Int) : look (p :: l) x = if p.a = x then some p.b else look l x := by
  unfold look
  rw [List.find?_cons]
  by_cases e : p.a = x
  · simp [e]
  · simp [e]
theorem look_any (x : Int) : ∀ l : List PI, (l.any fun p => decide (p.a = x)) = (look l x).isSome
  | [] => rfl
  | p :: l => by
    rw [List.any_cons, look_any x l, look_cons]
    by_cases e : p.a = x
    · simp [e]
    · simp [e]
theorem look_map (x y v : Int) : ∀ l : List PI, look (l.map fun p => if p.a = x then ⟨p.a, v⟩ else p) y = (look l y).map fun z => if y = x then v else z
  | [] => rfl
  | p :: l => by
    rw [List.map_cons, look_cons, look_cons, look_map x y v l]
    by_cases e : p.a = x
    · rw [if_pos e]
      by_cases f : p.a = y
      · rw [if_pos f, if_pos f]
        rw [← f, Option.map_some, if_pos e]
      · rw [if_neg f, if_neg f]
    · rw [if_neg e]
      by_cases f : p.a = y
      · rw [if_pos f, if_pos f, Option.map_some, if_neg (by rw [← f]; exact e)]
      · rw [if_neg f, if_neg f]
theorem look_app (l m : List PI) (x : Int) : look (l ++ m) x = (look l x).or (look m x) := by
  induction l with
  | nil => rfl
  | cons p l ih =>
    rw [List.cons_append, look_cons, look_cons, ih]
    by_cases e : p.a = x
    · rw [if_pos e, if_pos e]; rfl
    · rw [if_neg e, if_neg e]
theorem look_put (l : List PI) (x v y : Int) : look (put l x v) y = if y = x then some v else look l y := by
  unfold put
  by_cases a : (l.any fun p => decide (p.a = x)) = true
  · rw [if_pos a, look_map]
    by_cases e : y = x
    · rw [if_pos e, e]
      rw [look_any] at a
      obtain ⟨z, hz⟩ := Option.isSome_iff_exists.mp a
      rw [hz, Option.map_some, if_pos rfl]
    · rw [if_neg e]
      cases look l y with
      | none => rfl
      | some z => rw [Option.map_some, if_neg e]
  · rw [if_neg a, look_app]
    rw [look_any] at a
    by_cases e : y = x
    · rw [if_pos e, e]
      cases h : look l x with
      | none => rw [look_cons, if_pos rfl]; rfl
      | some z => rw [h] at a; exact absurd rfl a
    · rw [if_neg e, look_cons, if_neg (fun z => e z.symm), look_nil]
      cases look l y <;> rfl
/-- no place twice -/
def Nd (l : List PI) : Prop := (l.map (·.a)).Nodup
theorem look_none {l : List PI} {x : Int} : look l x = none ↔ x ∉ l.map (·.a) := by
  induction l with
  | nil => simp [look_nil]
  | cons p l ih =>
    rw [look_cons, List.map_cons, List.mem_cons]
    by_cases e : p.a = x
    · rw [if_pos e]; simp [e]
    · rw [if_neg e, ih]
      constructor
      · intro h z
        rcases z with z | z
        · exact e z.symm
        · exact h z
      · intro h z
        exact h (.inr z)
theorem look_mem {l : List PI} (h : Nd l) {p : PI} (m : p ∈ l) : look l p.a = some p.b := by
  induction l with
  | nil => cases m
  | cons q l ih =>
    have h' := List.nodup_cons.mp h
    rw [look_cons]
    rcases List.mem_cons.mp m with rfl | m
    · rw [if_pos rfl]
    · rw [if_neg (fun e => h'.1 (by show q.a ∈ _; rw [e]; exact List.mem_map.mpr ⟨p, m, rfl⟩))]
      exact ih h'.2 m
theorem mem_look {l : List PI} {x v : Int} (h : look l x = some v) : (⟨x, v⟩ : PI) ∈ l := by
  induction l with
  | nil => cases h
  | cons q l ih =>
    rw [look_cons] at h
    by_cases e : q.a = x
    · rw [if_pos e] at h
      cases h
      subst e
      exact List.mem_cons_self
    · rw [if_neg e] at h
      exact List.mem_cons_of_mem _ (ih h)
theorem nd_put {l : List PI} (h : Nd l) (x v : Int) : Nd (put l x v) := by
  unfold put
  by_cases a : (l.any fun p => decide (p.a = x)) = true
  · rw [if_pos a]
    unfold Nd
    rw [List.map_map]
    have e : ((fun p : PI => p.a) ∘ fun p : PI => if p.a = x then (⟨p.a, v⟩ : PI) else p) = fun p : PI => p.a := by
      funext p
      simp only [Function.comp]
      split <;> rfl
    rw [e]; exact h
  · rw [if_neg a]
    unfold Nd
    rw [List.map_append]
    refine nd_snoc h ?_
    rw [look_any] at a
    refine look_none.mp ?_
    cases q : look l x with
    | none => rfl
    | some z => rw [q] at a; exact absurd rfl a
theorem put_new {l : List PI} {x : Int} (v : Int) (h : look l x = none) : put l x v = l ++ [⟨x, v⟩] := by
  unfold put
  rw [look_any, h]
  rfl
theorem merge_nd {m : List PI} : ∀ {l : List PI}, Nd (l ++ m) → merge l m = l ++ m := by
  induction m with
  | nil => intro l _; simp [merge]
  | cons p m ih =>
    intro l h
    have e : l ++ p :: m = (l ++ [p]) ++ m := by simp
    have hn : look l p.a = none := by
      refine look_none.mpr fun z => ?_
      unfold Nd at h
      rw [List.map_append] at h
      exact (List.nodup_append.mp h).2.2 _ z _ (by rw [List.map_cons]; exact List.mem_cons_self) rfl
    show merge (put l p.a p.b) m = _
    rw [put_new _ hn, e]
    exact ih (by rw [← e]; exact h)
theorem nd_nil : Nd [] := List.nodup_nil
theorem put_len (l : List PI) (x v : Int) : (put l x v).length ≤ l.length + 1 := by
  unfold put
  split
  · rw [List.length_map]; omega
  · rw [List.length_append]; exact Nat.le_refl _
/-- Python's order of pairs -/
def leP (p q : PI) : Bool := decide (p.a < q.a) || (decide (p.a = q.a) && decide (p.b ≤ q.b))
theorem leP_iff {p q : PI} : leP p q = true ↔ p.a < q.a ∨ (p.a = q.a ∧ p.b ≤ q.b) := by simp [leP]
def ins (p : PI) : List PI → List PI
  | [] => [p]
  | q :: l => if leP p q = true then p :: q :: l else q :: ins p l
def srt (l : List PI) : List PI := l.foldr ins []
theorem ins_perm (p : PI) : ∀ l : List PI, (ins p l).Perm (p :: l)
  | [] => List.Perm.refl _
  | q :: l => by
    unfold ins
    split
    · exact List.Perm.refl _
    · exact (List.Perm.cons q (ins_perm p l)).trans (List.Perm.swap p q l)
theorem srt_perm : ∀ l : List PI, (srt l).Perm l
  | [] => List.Perm.refl _
  | p :: l => (ins_perm p (srt l)).trans ((srt_perm l).cons p)
abbrev LeP (p q : PI) : Prop := leP p q = true
theorem leP_trans {p q r : PI} (h1 : LeP p q) (h2 : LeP q r) : LeP p r := by
  have a := leP_iff.mp h1
  have b := leP_iff.mp h2
  exact leP_iff.mpr (by omega)
theorem leP_total (p q : PI) : LeP p q ∨ LeP q p := by
  show leP p q = true ∨ leP q p = true
  rw [leP_iff, leP_iff]
  omega
theorem ins_srt (p : PI) : ∀ {l : List PI}, l.Pairwise LeP → (ins p l).Pairwise LeP
  | [], _ => List.pairwise_singleton _ _
  | q :: l, h => by
    have h' := List.pairwise_cons.mp h
    unfold ins
    split
    · rename_i e
      refine List.pairwise_cons.mpr ⟨fun x m => ?_, h⟩
      rcases List.mem_cons.mp m with rfl | m
      · exact e
      · exact leP_trans e (h'.1 x m)
    · rename_i e
      refine List.pairwise_cons.mpr ⟨fun x m => ?_, ins_srt p h'.2⟩
      rcases List.mem_cons.mp ((ins_perm p l).mem_iff.mp m) with rfl | m
      · rcases leP_total q x with z | z
        · exact z
        · exact absurd z e
      · exact h'.1 x m
theorem srt_srt : ∀ l : List PI, (srt l).Pairwise LeP
  | [] => List.Pairwise.nil
  | p :: l => ins_srt p (srt_srt l)
theorem leP_anti {p q : PI} (h1 : LeP p q) (h2 : LeP q p) : p = q := by
  have a := leP_iff.mp h1
  have b := leP_iff.mp h2
  obtain ⟨x, y⟩ := p
  obtain ⟨x', y'⟩ := q
  have e1 : x = x' := by show x = x'; simp only at a b; omega
  have e2 : y = y' := by simp only at a b; omega
  rw [e1, e2]
/-- there is one sorted list of them -/
theorem srt_uniq : ∀ {l m : List PI}, l.Pairwise LeP → m.Pairwise LeP → l.Perm m → l = m
  | [], m, _, _, h => (List.Perm.eq_nil h.symm).symm
  | x :: l, [], _, _, h => absurd h.length_eq (by simp)
  | x :: l, y :: m, hl, hm, h => by
    have l' := List.pairwise_cons.mp hl
    have m' := List.pairwise_cons.mp hm
    have h1 : LeP y x := by
      rcases List.mem_cons.mp (h.mem_iff.mp (List.mem_cons_self (a := x) (l := l))) with e | z
      · rw [e]; rcases leP_total y y with z | z <;> exact z
      · exact m'.1 x z
    have h2 : LeP x y := by
      rcases List.mem_cons.mp (h.mem_iff.mpr (List.mem_cons_self (a := y) (l := m))) with e | z
      · rw [e]; rcases leP_total x x with z | z <;> exact z
      · exact l'.1 y z
    have e := leP_anti h2 h1
    subst e
    rw [srt_uniq l'.2 m'.2 h.cons_inv]
theorem srt_of {l m : List PI} (h : m.Pairwise LeP) (p : m.Perm l) : m = srt l := srt_uniq h (srt_srt l) (p.trans (srt_perm l).symm)
/-- what a value says as a pair, read off the heap -/
def pOf (H : Hp) : V → Int × Int
  | .ref t => match H t with
    | some (.tup [.int i, .int j]) => (i, j)
    | _ => (0, 0)
  | _ => (0, 0)
theorem pOf_is {H : Hp} {v : V} {d : PI} (h : Is H v d) : ∃ t, v = .ref t ∧ H t = some (.tup [.int (pOf H v).1, .int (pOf H v).2]) ∧ d = ⟨(pOf H v).1, (pOf H v).2⟩ := by
  obtain ⟨t, x, y, rfl, h1, h2, h3⟩ := h
  have h2 : x = .int d.a := h2
  have h3 : y = .int d.b := h3
  subst h2
  subst h3
  have e : pOf H (.ref t) = (d.a, d.b) := by simp only [pOf, h1]
  exact ⟨t, rfl, by rw [e]; exact h1, by rw [e]⟩
theorem all_of {H : Hp} : ∀ {xs : List V} {l : List PI}, IsAll H xs l → l = xs.map fun v => (⟨(pOf H v).1, (pOf H v).2⟩ : PI) := fun {xs l} h => by
  refine List.ext_getElem? fun i => ?_
  rw [List.getElem?_map]
  cases e : xs[i]? with
  | none =>
    have := List.getElem?_eq_none_iff.mp e
    exact List.getElem?_eq_none_iff.mpr (by rw [← h.1]; exact this)
  | some x =>
    obtain ⟨d, hd, hx⟩ := h.get' e
    obtain ⟨t, _, _, q⟩ := pOf_is hx
    rw [hd, q]
    rfl
/-- sorted of a list of pairs -/
theorem sort_pairs {K : PySem.W.Frag} {F H : Hp} {a : Addr} {xs : List V} {l : List PI} {Q : VK} (sF : Same F H) (hx : IsAll F xs l) (ha : SqL K H a xs) (q : ∀ ys p, H p = none → IsAll F ys (srt l) → Q (.ref p) (upd H p (.lst ys))) : rSortQ K [.ref a] H Q := by
  unfold rSortQ
  refine ⟨a, xs, pOf F, rfl, ha, fun x m => ?_, fun ys p hs hb np => q ys p np ?_⟩
  · obtain ⟨i, hi⟩ := List.getElem?_of_mem m
    obtain ⟨d, _, hd⟩ := hx.get' hi
    obtain ⟨t, e, h, _⟩ := pOf_is hd
    exact ⟨t, e, sF _ _ h⟩
  · have el := all_of hx
    have hys : IsAll F ys (ys.map fun v => (⟨(pOf F v).1, (pOf F v).2⟩ : PI)) := by
      refine ⟨by rw [List.length_map], fun i x y h1 h2 => ?_⟩
      rw [List.getElem?_map, h1] at h2
      cases h2
      have m : x ∈ xs := hb.perm.mem_iff.mp (List.mem_of_getElem? h1)
      obtain ⟨j, hj⟩ := List.getElem?_of_mem m
      obtain ⟨d, _, hd⟩ := hx.get' hj
      obtain ⟨t, e, h, e2⟩ := pOf_is hd
      exact ⟨t, _, _, e, h, rfl, rfl⟩
    have es : (ys.map fun v => (⟨(pOf F v).1, (pOf F v).2⟩ : PI)) = srt l := by
      refine srt_of ?_ ?_
      · refine List.pairwise_map.mpr (List.Pairwise.imp (fun {x y} h => ?_) hs)
        have h := SrtO.lexB_no.mp h
        exact leP_iff.mpr (by simp only; omega)
      · rw [el]
        exact hb.perm.map _
    rw [es] at hys
    exact hys
theorem pairs_of {K : PySem.W.Frag} {H : Hp} : ∀ {xs : List V} {l : List PI}, IsAll H xs l → ∃ ps : List Addr, xs = ps.map V.ref ∧ Paired (fun p kv => SqT K H p [kV kv.1, kv.2]) ps (dI l)
  | [], [], _ => ⟨[], rfl, .nil⟩
  | [], d :: l, h => by have := h.1; simp at this
  | x :: xs, [], h => by have := h.1; simp at this
  | x :: xs, d :: l, h => by
    obtain ⟨t, x1, x2, e, h1, h2, h3⟩ := h.2 0 x d rfl rfl
    have h2 : x1 = .int d.a := h2
    have h3 : x2 = .int d.b := h3
    subst h2
    subst h3
    obtain ⟨ps, e2, p⟩ := pairs_of (K := K) (xs := xs) (l := l) ⟨by have := h.1; simpa using this, fun i a b p q => h.2 (i + 1) a b (by simpa using p) (by simpa using q)⟩
    exact ⟨t :: ps, by rw [e, e2]; rfl, .cons (SqT.of h1) p⟩
/-- dict(pairs) -/
theorem dict_pairs {K : PySem.W.Frag} {H : Hp} {a : Addr} {xs : List V} {l : List PI} {Q : VK} (hx : IsAll H xs l) (ha : SqL K H a xs) (q : ∀ p, H p = none → Q (.ref p) (upd H p (.dK (dI (merge [] l))))) : rDictP K [.ref a] H Q := by
  unfold rDictP
  obtain ⟨ps, e, p⟩ := pairs_of (K := K) hx
  refine ⟨a, ps, dI l, rfl, by rw [← e]; exact ha, p, fun d nd => ?_⟩
  have e2 : mergeK [] (dI l) = dI (merge [] l) := dI_merge l []
  rw [e2]
  exact q d nd
/-! ### a dict under its lock -/
theorem lock_in {F H : Hp} {d : Addr} {o : HO} (s : Same F H) : Same (fun c => if c = d then none else F c) (upd H d o) := fun c u h => by
  by_cases e : c = d
  · simp only [e, if_true] at h; cases h
  · simp only [e, if_false] at h
    rw [upd_ne e]; exact s c u h
theorem lock_out {F H F2 H2 : Hp} {d : Addr} {o u : HO} (s : Same F H) (h : H d = some u) (g : Gr mu0 (fun c => if c = d then none else F c) (upd H d o) F2 H2) :
    H2 d = some o ∧ Same F2 (fun c => if c = d then F d else F2 c) ∧ Gr mu0 F H (fun c => if c = d then F d else F2 c) (upd H2 d u) := by
  have n2 : F2 d = none := by
    cases e : F2 d with
    | none => rfl
    | some z =>
      rcases g.nw d z e with k | k
      · simp only [if_true] at k; cases k
      · rw [upd_same] at k; cases k
  refine ⟨g.fr d o upd_same (fun z => z), fun c z e => ?_, ⟨fun c z e => ?_, fun c z e => ?_, fun c z e => ?_, fun c z e m => ?_, fun c e => ?_⟩⟩
  · by_cases k : c = d
    · rw [k, n2] at e; cases e
    · simp only [k, if_false]; exact e
  · by_cases k : c = d
    · simp only [k, if_true]; rw [← k]; exact e
    · simp only [k, if_false]
      exact g.ff c z (by simp only [k, if_false]; exact e)
  · by_cases k : c = d
    · simp only [k, if_true] at e
      rw [k, upd_same, ← h]
      exact s d z e
    · simp only [k, if_false] at e
      rw [upd_ne k]; exact g.fh c z e
  · by_cases k : c = d
    · simp only [k, if_true] at e
      exact .inl (by rw [k]; exact e)
    · simp only [k, if_false] at e
      rcases g.nw c z e with q | q
      · simp only [k, if_false] at q; exact .inl q
      · rw [upd_ne k] at q; exact .inr q
  · by_cases k : c = d
    · rw [k, upd_same]; rw [k, h] at e; exact e
    · rw [upd_ne k]
      exact g.fr c z (by rw [upd_ne k]; exact e) (fun z => z)
  · by_cases k : c = d
    · rw [k, upd_same] at e; cases e
    · rw [upd_ne k] at e
      have q := g.th c e
      rw [upd_ne k] at q; exact q
/-- the signs that aren't 0, in order -/
def nz (p : PI) : Bool := decide (p.b ≠ 0)
def told (l : List PI) : List PI := srt (l.filter nz)
theorem dI_get {l : List PI} {i : Nat} (h : i < l.length) : (dI l)[i]? = some (Sum.inl l[i].a, V.int l[i].b) := by
  unfold dI
  rw [List.getElem?_map, List.getElem?_eq_getElem h]
  rfl
theorem filter_take_succ {l : List PI} {f : PI → Bool} {i : Nat} (h : i < l.length) : (l.take (i + 1)).filter f = (l.take i).filter f ++ (if f l[i] = true then [l[i]] else []) := by
  rw [List.take_add_one, List.getElem?_eq_getElem h, List.filter_append]
  show _ ++ List.filter f [l[i]] = _
  rw [List.filter_cons]
  split <;> rfl
theorem nd_srt {l : List PI} (h : Nd l) : Nd (srt l) := ((srt_perm l).map (fun p : PI => p.a)).nodup_iff.mpr h
theorem mem_srt {l : List PI} {q : PI} : q ∈ srt l ↔ q ∈ l := (srt_perm l).mem_iff
theorem mem_put {l : List PI} {x v : Int} {q : PI} (m : q ∈ put l x v) : q ∈ l ∨ q = ⟨x, v⟩ := by
  unfold put at m
  split at m
  · obtain ⟨z, hz, e⟩ := List.mem_map.mp m
    split at e
    · rename_i h1 h2
      exact .inr (by rw [← e, h2])
    · exact .inl (by rw [← e]; exact hz)
  · rcases List.mem_append.mp m with m | m
    · exact .inl m
    · exact .inr (List.mem_singleton.mp m)
/-! ### sorted(d.items()), d a dict of ints to ints -/
section
open PySem.Spec PyProof.Rows
variable {X : Cx}
/-- many new things are tracked at once -/
theorem inv_many {pins : List (Addr × Obj)} {σ : L2.St} {H H' : Hp} {s : Shared} {h' : Heap} {tk : Nat} {as : List Addr} (I : Inv X pins σ H s) (k : ∀ b o, s.heap.get? b = some o → h'.get? b = some o) (hp : ∀ a ∈ as, s.heap.objs.size ≤ a)
    (p1 : ∀ b, b ∉ as → H' b = H b) (p2 : ∀ b ∈ as, ∀ o, H' b = some o → ObjOk X.prog X.w H' h' b o) : Inv X pins σ H' { s with heap := h', toks := tk } := by
  have old : ∀ b o, s.heap.get? b = some o → b ∉ as := fun b o e z => Nat.lt_irrefl _ (Nat.lt_of_lt_of_le (Heap.lt_size e) (hp b z))
  have trc : ∀ b o, H b = some o → b ∉ as := fun b o e z => by
    have := I.hok.lt e
    exact Nat.lt_irrefl _ (Nat.lt_of_lt_of_le this (hp b z))
  have kp : ∀ b o, H b = some o → H' b = some o := fun b o e => by rw [p1 b (trc b o e)]; exact e
  refine I.un ⟨fun b o q _ _ _ => k b o q, fun b o q _ _ _ => ⟨o.slots, k b o q⟩, fun b o q n _ => by rw [p1 b (old b o q)]; exact n, fun b o q _ => ⟨o, k b o q⟩, fun b xs e => kp b _ e, fun b o u e => kp b _ e, fun b ps e => ⟨#[], by rw [kp b _ e]; simp⟩⟩ fun b o e => ?_
  by_cases m : b ∈ as
  · exact p2 b m o e
  · rw [p1 b m] at e
    exact (I.hok b o e).stay (fun c u _ q => k c u q) (fun c q => kp c _ q) fun c xs q => kp c _ q
/-- the pair that stands at a -/
def pzAt (zs : List (Addr × PI)) (a : Addr) : Option PI := (zs.find? fun z => decide (z.1 = a)).map (·.2)
theorem pzAt_ix : ∀ {zs : List (Addr × PI)}, (zs.map (·.1)).Nodup → ∀ {j : Nat} {z : Addr × PI}, zs[j]? = some z → pzAt zs z.1 = some z.2
  | [], _, j, z, h => by cases h
  | y :: ys, nd, 0, z, h => by
    have e := Option.some.inj h
    subst e
    simp [pzAt]
  | y :: ys, nd, j + 1, z, h => by
    have nd' := List.nodup_cons.mp nd
    have m : z.1 ∈ ys.map (·.1) := List.mem_map.mpr ⟨z, List.mem_of_getElem? (show ys[j]? = some z from h), rfl⟩
    have ih := pzAt_ix nd'.2 (show ys[j]? = some z from h)
    have ne : ¬ y.1 = z.1 := fun e => nd'.1 (by show y.1 ∈ _; rw [e]; exact m)
    unfold pzAt at ih ⊢
    rw [List.find?_cons, decide_eq_false ne]
    exact ih
theorem pzAt_no {zs : List (Addr × PI)} {a : Addr} (h : a ∉ zs.map (·.1)) : pzAt zs a = none := by
  unfold pzAt
  rw [List.find?_eq_none.mpr fun z m e => h (List.mem_map.mpr ⟨z, m, of_decide_eq_true e⟩)]
  rfl
def trk (H : Hp) (B : Addr) (L : HO) (zs : List (Addr × PI)) : Hp := fun b => if b = B then some L else match pzAt zs b with
  | some q => some (.tup [.int q.a, .int q.b])
  | none => H b
def adOf : Value → Addr
  | .ref a => a
  | _ => 0
@[irreducible] def rSortIt : V → Hp → VK → Prop := fun x H Q => ∃ (d : Addr) (l : List PI), x = .ref d ∧ H d = some (.dK (dI l)) ∧
  ∀ (H' : Hp) (p : Addr) (ys : List Addr), Same H H' → H p = none → (∀ t ∈ ys, H t = none) → p ∉ ys → (∀ b, b ≠ p → b ∉ ys → H' b = H b) → H' p = some (.lst (ys.map V.ref)) → All2 (fun t (q : PI) => H' t = some (.tup [.int q.a, .int q.b])) ys (srt l) → Q (.ref p) H'
def tSortIt (te : TE) : TE := fun σ H Q => te σ H fun x H1 => rSortIt x H1 Q
theorem pe_sortedItems {e : Expr} {te : TE} {p apos cpos pos : Pos} (hc : X.calm = true) (he : PE X e te) (hg : Gl X "sorted") (hm : X.mg "sorted" = none) (hv : bootBuiltins "sorted" = some (.builtin "sorted")) (hbase : attributeBase e "items" X.env (eval e X.env) = eval e X.env := by rfl) (hline : (apos.endLine == cpos.line) = true := by rfl)
    (hs : starEach [.Call (.Attribute e "items" apos) [] [] cpos] X.env = (false, eval (.Call (.Attribute e "items" apos) [] [] cpos) X.env) :: starEach [] X.env := by rfl) :
    PE X (.Call (.Name "sorted" p) [.Call (.Attribute e "items" apos) [] [] cpos] [] pos) (tSortIt te) := by
  refine ⟨fun pins s σ H Q I hq => ?_⟩
  refine wpAny_Call_Name_kw (ld_blt I hg hm hv ?_)
  refine PyProof.Rows.callWith_builtin1 ?_ hs rfl
  rw [hs]
  show wpAny _ _ (spliced ((false, eval (.Call (.Attribute e "items" apos) [] [] cpos) X.env) :: backTo pos (starEach [] X.env))) _ _ s
  refine Calls.spliced_cons ?_
  refine wpAny_Call_method (T := "dict") (id := "dict.items") hbase rfl hline F.plainAttrs_dict F.slot_dict_items F.type_dict_items (thn (he.run pins s σ H _ I hq) fun u s1 ⟨x, H1, I1, rx, q⟩ => ?_)
  unfold rSortIt at q
  obtain ⟨d, l, rfl, hd, q⟩ := q
  obtain rfl : u = Value.ref d := rx
  obtain ⟨hz, hs0, vs, kv, hdo⟩ := I1.hok d _ hd
  obtain ⟨ep, hat⟩ := hdo.dictAt
  have lk : (dI l).length = vs.length := Paired.length kv
  have ll : (dI l).length = l.length := by unfold dI; rw [List.length_map]
  refine ⟨hdo.typeIs, hdo.mapOf.noDict, ?_⟩
  show wpAny _ _ (callWith cpos (.builtin "dict.items") [.ref d] [] []) _ X.xe s1
  refine method_meetsIn F.slot_dict_items F.entry_dict_items rfl (PySem.evalArgs_none ⟨rfl, hdo.typeIs, F.args_dict_items_1 _, _, meets_dict_items (mixKind X.prog X.w) d hs0, ⟨vs, hdo⟩, ?_⟩)
  refine Calls.spliced_nil ?_
  have I2 : Inv X pins σ H1 { s1 with heap := s1.heap.push { cls := .type "dict_items", data := .fields #[.ref d] } } := I1.kept (t' := s1.toks) fun b ob q => Heap.get?_push_of_some _ q
  have hB : ((H1 d).isSome) = true := by rw [hd]; rfl
  refine Calls.call_function_entry kind_sorted plain_sorted entry_sorted (args_sorted1 _) (by
    unfold Builtin.«sorted»
    refine wpAny_bind (m := checkCount "sorted" 1 1 _) (wpAny_pure (wpAny_bind (PySem.W.kdx_collect (knd := mixKind X.prog X.w) (kvs := vs) (ep := ep) (I1.ok.hd hc) ⟨_, Heap.get?_push_size _ rfl, rfl, rfl⟩ (hat.push _) (by omega) fun h1 tk as hk hl hG => ?_)))
    refine wpAny_bind (wpAny_newList ?_ (by rw [List.length_map, hl]; omega))
    -- the pairs' tuples: at as
    have nd : as.Nodup := hG.rise.imp fun {a b} h => Nat.ne_of_lt h
    have lz : (as.zip l).map (·.1) = as := List.map_fst_zip (by omega)
    have zx : ∀ (j : Nat) (a : Addr), as[j]? = some a → ∃ (q : PI) (t u : Tok), l[j]? = some q ∧ pzAt (as.zip l) a = some q ∧ h1.get? a = some { cls := .type "tuple", data := .seq #[.int q.a t, .int q.b u] } := fun j a h => by
      obtain ⟨key, k, x, e1, e2, e3⟩ := hG.pairs j a h
      have jl : j < l.length := by have := (List.getElem?_eq_some_iff.mp h).1; omega
      have lj : l[j]? = some l[j] := List.getElem?_eq_getElem jl
      obtain ⟨y, e4, e5, e6⟩ := LiI.paired_get kv (dI_get jl)
      rw [e1] at e4
      have e4 := Option.some.inj e4
      subst e4
      obtain ⟨i, tk1, e7, rfl⟩ | ⟨z, tk1, e7, _⟩ := keyIs_shape (show keyIs k key = true from e2)
      · have e5 : Sum.inl l[j].a = k := e5
        rw [e7] at e5
        have e5 := Sum.inl.inj e5
        subst e5
        obtain ⟨tk2, e6⟩ := (show RelV (.int l[j].b) x from e6)
        subst e6
        exact ⟨l[j], tk1, tk2, lj, pzAt_ix (zs := as.zip l) (by rw [lz]; exact nd) (j := j) (z := (a, l[j])) (List.getElem?_zip_eq_some.mpr ⟨h, lj⟩), e3⟩
      · have e5 : Sum.inl l[j].a = k := e5
        rw [e7] at e5
        cases e5
    have zm : ∀ a ∈ as, ∃ (q : PI) (t u : Tok), pzAt (as.zip l) a = some q ∧ h1.get? a = some { cls := .type "tuple", data := .seq #[.int q.a t, .int q.b u] } := fun a m => by
      obtain ⟨j, hj⟩ := List.getElem?_of_mem m
      obtain ⟨q, t, u, _, h2, h3⟩ := zx j a hj
      exact ⟨q, t, u, h2, h3⟩
    have lm : as.map (fun a => (pzAt (as.zip l) a).getD ⟨0, 0⟩) = l := by
      refine List.ext_getElem? fun j => ?_
      rw [List.getElem?_map]
      cases hj : as[j]? with
      | none =>
        have := List.getElem?_eq_none_iff.mp hj
        exact (List.getElem?_eq_none_iff.mpr (by omega)).symm
      | some a =>
        obtain ⟨q, t, u, h1, h2, _⟩ := zx j a hj
        rw [h1, Option.map_some, h2]; rfl
    generalize ezs : as.zip l = zs at zx zm lm lz
    have s12 : (s1.heap.push { cls := .type "dict_items", data := .fields #[.ref d] }).objs.size ≤ h1.objs.size := by
      have := Heap.lt_size (hk _ _ (Heap.get?_push_size s1.heap rfl))
      rw [Heap.size_push]; exact this
    have Bn : h1.objs.size ∉ as := fun z => Nat.lt_irrefl _ (hG.there z)
    let kk : Value → Int × Int := fun v => (((pzAt zs (adOf v)).getD ⟨0, 0⟩).a, ((pzAt zs (adOf v)).getD ⟨0, 0⟩).b)
    have ho : (h1.push { cls := .type "list", data := .seq (as.map Value.ref).toArray }).get? h1.objs.size = some (seqObj "list" (as.map Value.ref).toArray 0) := Heap.get?_push_size _ rfl
    refine wpAny_bind (wpAny_holding (wpAny_call_entry slot_list_sort ⟨_, ho, rfl⟩ entry_list_sort (SrtO.list_sort_ord (ltv := fun v u => SrtO.lexB (kk v) (kk u)) (SrtO.swo_lex kk) ho (by rw [List.length_map, hl]; omega) (fun h2 => ?_) fun out hso hbo => ⟨_, rfl, wpAny_pure ⟨_, rfl, ?_⟩⟩) (args_list_sort _)))
    · refine SrtO.pairs_sortableO (k := kk) (by omega) (fun v m => ?_) fun o e => ?_
      · obtain ⟨a, ma, rfl⟩ := List.mem_map.mp m
        obtain ⟨q, t, u, h1', h2'⟩ := zm a ma
        refine ⟨a, _, t, u, 0, rfl, Heap.get?_push_of_some _ h2', rfl, ?_⟩
        show _ = Data.seq #[.int ((pzAt zs a).getD ⟨0, 0⟩).a t, .int ((pzAt zs a).getD ⟨0, 0⟩).b u] 0
        rw [h1']
        rfl
      · rw [ho] at e
        cases e
        intro c
        exact absurd (Value.type.inj c) (by decide)
    · have outp : out.Perm (as.map Value.ref) := hbo.perm
      have oe : out = (out.map adOf).map Value.ref := by
        rw [List.map_map]
        refine (List.map_id out).symm.trans (List.map_congr_left fun v m => ?_)
        obtain ⟨a, _, rfl⟩ := List.mem_map.mp (outp.mem_iff.mp m)
        rfl
      have yp : (out.map adOf).Perm as := by
        have := outp.map adOf
        rw [List.map_map] at this
        have e : as.map (adOf ∘ Value.ref) = as := (List.map_congr_left fun a _ => rfl).trans (List.map_id as)
        rw [e] at this; exact this
      generalize out.map adOf = ys at oe yp
      have lo : out.length ≤ sizeLine := by rw [oe, List.length_map, yp.length_eq, hl]; omega
      obtain ⟨ep3, h3B⟩ := sortedHeap_at (vs := as.map Value.ref) (out := out.toArray) ho
      have h3o : ∀ b o, h1.get? b = some o → (sortedHeap (h1.push { cls := .type "list", data := .seq (as.map Value.ref).toArray }) h1.objs.size (as.map Value.ref) out.toArray).get? b = some o := fun b o e => by
        have bl := Heap.lt_size e
        rw [sortedHeap_old (Nat.ne_of_lt bl) (by rw [Heap.size_push]; exact Nat.lt_succ_of_lt bl)]
        exact Heap.get?_push_of_some _ e
      have tB : trk H1 h1.objs.size (.lst (ys.map V.ref)) zs h1.objs.size = some (.lst (ys.map V.ref)) := by unfold trk; rw [if_pos rfl]
      have tT : ∀ a ∈ as, ∀ q, pzAt zs a = some q → trk H1 h1.objs.size (.lst (ys.map V.ref)) zs a = some (.tup [.int q.a, .int q.b]) := fun a m q e => by
        unfold trk
        rw [if_neg (fun z => Bn (by rw [← z]; exact m)), e]
      have tO : ∀ b, b ≠ h1.objs.size → b ∉ as → trk H1 h1.objs.size (.lst (ys.map V.ref)) zs b = H1 b := fun b n m => by
        unfold trk
        rw [if_neg n, pzAt_no (by rw [lz]; exact m)]
      have big : ∀ a ∈ h1.objs.size :: as, (s1.heap.push { cls := .type "dict_items", data := .fields #[.ref d] }).objs.size ≤ a := fun a m => by
        rcases List.mem_cons.mp m with rfl | m
        · exact s12
        · exact Nat.le_of_lt (hG.above a m)
      have J := inv_many (tk := tk) (H' := trk H1 h1.objs.size (.lst (ys.map V.ref)) zs) (h' := sortedHeap (h1.push { cls := .type "list", data := .seq (as.map Value.ref).toArray }) h1.objs.size (as.map Value.ref) out.toArray) (as := h1.objs.size :: as) I2 (fun b o e => h3o b o (hk b o e)) big
          (fun b m => tO b (fun z => m (by rw [z]; exact List.mem_cons_self)) (fun z => m (List.mem_cons_of_mem _ z))) (fun b m o e => by
        by_cases hb : b = h1.objs.size
        · subst hb
          rw [tB] at e
          cases e
          refine ⟨by rw [List.length_map, yp.length_eq, hl]; omega, out, ep3, ?_, h3B⟩
          rw [oe]
          exact LiI.vals_refs ys
        · have m := (List.mem_cons.mp m).resolve_left hb
          obtain ⟨q, t, u, e1, e2⟩ := zm b m
          rw [tT b m q e1] at e
          cases e
          exact ⟨two_le, [.int q.a t, .int q.b u], .cons ⟨_, rfl⟩ (.cons ⟨_, rfl⟩ .nil), ⟨_, h3o b _ e2, rfl, _, rfl⟩⟩)
      have fr1 : ∀ a ∈ h1.objs.size :: as, H1 a = none := fun a m => I2.hok.fresh (big a m)
      have ym : ∀ a, a ∈ ys ↔ a ∈ as := fun a => yp.mem_iff
      refine ⟨.ref h1.objs.size, _, J, rfl, q _ _ ys (fun b o e => ?_) (fr1 _ List.mem_cons_self) (fun t m => fr1 t (List.mem_cons_of_mem _ ((ym t).mp m))) (fun z => Bn ((ym _).mp z)) (fun b n m => tO b n fun z => m ((ym b).mpr z)) tB ?_⟩
      · rw [tO b (fun z => by rw [z, fr1 _ List.mem_cons_self] at e; cases e) (fun z => by rw [fr1 b (List.mem_cons_of_mem _ z)] at e; cases e)]
        exact e
      · have es : ys.map (fun a => (pzAt zs a).getD ⟨0, 0⟩) = srt l := by
          refine srt_of ?_ (by rw [← lm]; exact yp.map _)
          rw [oe] at hso
          have hso := List.pairwise_map.mp hso
          refine List.pairwise_map.mpr (hso.imp fun {x y} h => ?_)
          have h := SrtO.lexB_no.mp h
          exact leP_iff.mpr (by simp only [kk, adOf] at h; omega)
        rw [← es]
        refine ⟨by rw [List.length_map], fun i x y h1 h2 => ?_⟩
        rw [List.getElem?_map, h1] at h2
        cases h2
        have m := (ym x).mp (List.mem_of_getElem? h1)
        obtain ⟨q, t, u, e1, e2⟩ := zm x m
        rw [tT x m q e1]
        show _ = some (HO.tup [V.int ((pzAt zs x).getD ⟨0, 0⟩).a, V.int ((pzAt zs x).getD ⟨0, 0⟩).b])
        rw [e1]
        rfl)
theorem sitems {F H : Hp} {d : Addr} {l : List PI} {Q : VK} (sF : Same F H) (hd : H d = some (.dK (dI l))) (q : ∀ (F' H' : Hp) (p : Addr) (xs : List V), Gr mu0 F H F' H' → Ow H F' H' p (.lst xs) → IsAll F' xs (srt l) → Q (.ref p) H') : rSortIt (.ref d) H Q := by
  unfold rSortIt
  refine ⟨d, l, rfl, hd, fun H' p ys s n nt pn off hp al => ?_⟩
  have fy : ∀ b ∈ ys, F b = none := fun b m => sF.free (nt b m)
  have s' : Same F (fun b => if b ∈ ys then H' b else F b) := fun b o e => by
    by_cases m : b ∈ ys
    · rw [fy b m] at e; cases e
    · simp only [m, if_false]; exact e
  have e2 : ∀ b, b ∈ ys → (if b ∈ ys then H' b else F b) = H' b := fun b m => if_pos m
  refine q (fun b => if b ∈ ys then H' b else F b) H' p (ys.map V.ref) ⟨s', fun b o e => ?_, fun b o e => ?_, fun b o e _ => s b o e, fun b e => s.free e⟩ ⟨n, ?_, hp⟩ ⟨by rw [List.length_map]; exact al.1, fun i x y h1 h2 => ?_⟩
  · by_cases m : b ∈ ys
    · simp only [m, if_true] at e; exact e
    · simp only [m, if_false] at e; exact s b o (sF b o e)
  · by_cases m : b ∈ ys
    · exact .inr (nt b m)
    · simp only [m, if_false] at e; exact .inl e
  · show (if p ∈ ys then H' p else F p) = none
    rw [if_neg pn]; exact sF.free n
  · rw [List.getElem?_map] at h1
    cases e : ys[i]? with
    | none => rw [e] at h1; cases h1
    | some t =>
      rw [e] at h1
      cases h1
      refine ⟨t, _, _, rfl, ?_, rfl, rfl⟩
      show (if t ∈ ys then H' t else F t) = _
      rw [if_pos (List.mem_of_getElem? e)]
      exact al.2 i t y e h2
end
/-! ### sum of a tuple; a tuple not at all or once -/
section
open PySem.Spec PyProof.Rows
variable {X : Cx}
def rSumT (K : PySem.W.Frag) : List V → Hp → VK → Prop := fun vs H Q => ∃ (a : Addr) (ns : List Int), vs = [V.ref a] ∧ SqT K H a (ns.map V.int) ∧ Q (.int ns.sum) H
theorem cr_sumT (hc : X.calm = true) : CallR X (.builtin "sum") (rSumT X.K) := by
  intro pins s σ H vs us Q I r h
  obtain ⟨a, ns, rfl, ht, q⟩ := h
  obtain ⟨its, rv, ⟨o, ho, hcl, n, hd⟩, _⟩ := I.tuple ht
  have hi := rv.ints
  obtain ⟨xs, e⟩ := hi.allInts.items
  have hn : numsOf (intItems xs).toList = ns := by rw [← e]; exact hi.numsOf
  rw [nums_intItems] at hn
  rw [e] at hd
  rw [Vals.ref1 r]
  refine PySem.W.ktm_sumG (I.ok.hd hc) ⟨o, ho, hcl, n, hd⟩ fun h' tk t' hk => ?_
  rw [preSum_eq, List.take_of_length_le (by simp), hn]
  exact ⟨.int _, H, I.kept hk, ⟨_, rfl⟩, q⟩
theorem tup_mul1 (l : Addr) (items : Array Value) (n : Nat) (dd : Option Addr) (sl : Array (Option Value)) (u : Tok) (hne : items.isEmpty = false) :
    Meets (Builtin.«tuple.__mul__» ⟨[.ref l, .int 1 u], []⟩) (fun _ R s => s.heap.get? l = some { cls := .type "tuple", dict := dd, data := .seq items n, slots := sl } ∧ R (.ok (.ret (Value.ref l))) s) :=
  .of_wp fun prog w A R s h => by
    obtain ⟨hp, g, d, tk, os⟩ := s
    obtain ⟨hl, h⟩ := h
    have f1 := AutoSeq1.idx_int
    wp_walk using wpAny_loadPart' hl
    exact ⟨_, rfl, h⟩
theorem tup_mul0 (l : Addr) (items : Array Value) (n : Nat) (dd : Option Addr) (sl : Array (Option Value)) (u : Tok) (hne : items.isEmpty = false) :
    Meets (Builtin.«tuple.__mul__» ⟨[.ref l, .int 0 u], []⟩) (fun _ R s => s.heap.get? l = some { cls := .type "tuple", dict := dd, data := .seq items n, slots := sl } ∧
      R (.ok (.ret (Value.ref s.heap.objs.size))) { s with heap := s.heap.push { cls := Value.type "tuple", data := Data.seq #[] }, toks := s.toks }) :=
  .of_wp fun prog w A R s h => by
    obtain ⟨hp, g, d, tk, os⟩ := s
    obtain ⟨hl, h⟩ := h
    have f1 := AutoSeq1.idx_int
    wp_walk using wpAny_loadPart' hl
    exact ⟨_, rfl, h⟩
def rRep01 (K : PySem.W.Frag) : R2 := fun x y H Q => ∃ l k xs, x = .ref l ∧ y = .int k ∧ SqT K H l xs ∧ xs ≠ [] ∧ ((k = 1 ∧ Q (.ref l) H) ∨ (k = 0 ∧ ∀ p, H p = none → Q (.ref p) (upd H p (.tup []))))
theorem op_rep01 : OpR X (binaryOp .Mult) (rRep01 X.K) := by
  intro pins s σ H x y v u Q I rx ry h
  obtain ⟨l, k, xs, rfl, rfl, hT, hne, h⟩ := h
  cases rx
  obtain ⟨tk, rfl⟩ := ry
  obtain ⟨its, r, ⟨⟨cls, dd, data, sl⟩, ho, hc, n, hd⟩, hs⟩ := I.tuple hT
  simp only at hc hd
  subst hc hd
  have hi : its.toArray.isEmpty = false := by
    cases its with
    | nil => have := r.length; exact absurd (List.eq_nil_of_length_eq_zero this) hne
    | cons a b => rfl
  rcases h with ⟨rfl, q⟩ | ⟨rfl, q⟩
  · refine wpAny_binaryOp_repeat_ref (T := "tuple") (U := "int") (by decide) ⟨_, ho, rfl⟩ (fun s' => typeIs_int s' 1 tk) noFill_tuple_mul F.fills_int_mul F.slot_int_rmul repeat_tuple F.slot_int_index.lookup
      (call_meets F.slot_int_rmul (typeIs_int s 1 tk) F.entry_int_rmul (F.args_int_rmul_2 _ _) (int_rmul_tuple 1 tk l its.toArray n dd sl)
        ⟨ho, rfl, ⟨_, ho, rfl⟩, call_meets F.slot_tuple_mul ⟨_, ho, rfl⟩ F.entry_tuple_mul (F.args_tuple_mul_2 _ _) (tup_mul1 l its.toArray n dd sl tk hi) ⟨ho, ?_⟩⟩)
    exact ⟨.ref l, H, I, rfl, q⟩
  · refine wpAny_binaryOp_repeat_ref (T := "tuple") (U := "int") (by decide) ⟨_, ho, rfl⟩ (fun s' => typeIs_int s' 0 tk) noFill_tuple_mul F.fills_int_mul F.slot_int_rmul repeat_tuple F.slot_int_index.lookup
      (call_meets F.slot_int_rmul (typeIs_int s 0 tk) F.entry_int_rmul (F.args_int_rmul_2 _ _) (int_rmul_tuple 0 tk l its.toArray n dd sl)
        ⟨ho, rfl, ⟨_, ho, rfl⟩, call_meets F.slot_tuple_mul ⟨_, ho, rfl⟩ F.entry_tuple_mul (F.args_tuple_mul_2 _ _) (tup_mul0 l its.toArray n dd sl tk hi) ⟨ho, ?_⟩⟩)
    refine ⟨.ref s.heap.objs.size, _, I.laid (t' := s.toks) (o := .tup []) (fun b ob q => Heap.get?_push_of_some _ q) (Nat.le_refl _) ?_, rfl, q _ (I.hok.fresh (Nat.le_refl _))⟩
    exact ⟨nil_le, _, .nil, IsTup.new _ _⟩
end
/-! slices of tuples, +: the ways -/
@[irreducible] def rSlQ (K : PySem.W.Frag) : V → Option Int → Option Int → Hp → VK → Prop := rSlA K
theorem sl_tupQ {X : Cx} : SlR X (rSlQ X.K) := by
  unfold rSlQ
  exact sl_tupA
@[irreducible] def rCatQ (K : PySem.W.Frag) : R2 := rCatA K
theorem op_catQ {X : Cx} : OpR X (binaryOp .Add) (rCatQ X.K) := by
  unfold rCatQ
  exact op_catA
theorem slA_all {K : PySem.W.Frag} {H : Hp} {a : Addr} {xs : List V} {lo hi : Option Int} {Q : VK} (h : SqT K H a xs) (w : HT.sIx xs.length 0 lo = 0 ∧ HT.sIx xs.length xs.length hi = xs.length) (q : Q (.ref a) H) : rSlQ K (.ref a) lo hi H Q := by
  unfold rSlQ
  exact ⟨a, xs, rfl, h, fun _ => q, fun n => absurd w n⟩
theorem slA_cut {K : PySem.W.Frag} {H : Hp} {a : Addr} {xs : List V} {lo hi : Option Int} {Q : VK} (h : SqT K H a xs) (w : ¬ (HT.sIx xs.length 0 lo = 0 ∧ HT.sIx xs.length xs.length hi = xs.length)) (q : ∀ p, H p = none → Q (.ref p) (upd H p (.tup (cutV xs lo hi)))) : rSlQ K (.ref a) lo hi H Q := by
  unfold rSlQ
  exact ⟨a, xs, rfl, h, fun n => absurd n w, fun _ => q⟩
theorem catA_nil {K : PySem.W.Frag} {H : Hp} {a b : Addr} {ys : List V} {Q : VK} (h : SqT K H a []) (h2 : SqT K H b ys) (l : ys.length ≤ sizeLine) (q : Q (.ref b) H) : rCatQ K (.ref a) (.ref b) H Q := by
  unfold rCatQ
  exact ⟨a, b, [], ys, rfl, rfl, h, h2, by simpa using l, fun _ => q, fun n => absurd rfl n, fun n => absurd rfl n⟩
theorem catA_new {K : PySem.W.Frag} {H : Hp} {a b : Addr} {xs ys : List V} {Q : VK} (h : SqT K H a xs) (h2 : SqT K H b ys) (l : xs.length + ys.length ≤ sizeLine) (n1 : xs ≠ []) (n2 : ys ≠ []) (q : ∀ p, H p = none → Q (.ref p) (upd H p (.tup (xs ++ ys)))) : rCatQ K (.ref a) (.ref b) H Q := by
  unfold rCatQ
  exact ⟨a, b, xs, ys, rfl, rfl, h, h2, l, fun e => absurd e n1, fun _ e => absurd e n2, fun _ _ => q⟩
/-! ### enumerate(tuple); sorted(dict) of int keys, of any length -/
section
open PySem.Spec PyProof.Rows
set_option maxHeartbeats 8000000 in
theorem enT_new (t : Addr) (zs : Array Value) : Meets (Builtin.«enumerate.__new__» ⟨[.type "enumerate", .ref t], []⟩) (fun _ R s => s.heap.IsTuple t zs ∧
    R (.ok (.ret (.ref (s.heap.push { cls := .type "tuple_iterator", data := .fields #[.ref t, .int 0 0] }).objs.size)))
      { s with heap := (s.heap.push { cls := .type "tuple_iterator", data := .fields #[.ref t, .int 0 0] }).push { cls := .type "enumerate", data := .fields #[.none, .bool false, .ref s.heap.objs.size, rawInt 0, .none, .none] } }) :=
  .of_wp fun prog w A R s z => by
    obtain ⟨hp, gs, dr, tk, os⟩ := s
    obtain ⟨hz, z⟩ := z
    have sub := sub_enumerate
    have step : ∀ {A' : Around} {E : Value → Shared → Prop} {Q : Value → Shared → Prop}, Q (.ref hp.objs.size) ⟨hp.push { cls := .type "tuple_iterator", data := .fields #[.ref t, .int 0 0] }, gs, dr, tk, os⟩ → wpAny (model prog w) A' (pyIter (.ref t)) Q E ⟨hp, gs, dr, tk, os⟩ :=
      fun q => (begins_tuple t zs).iter prog w _ _ ⟨hp, gs, dr, tk, os⟩ _ hz q
    wp_walk using step
    refine wpAny_stack_any fun st => wpAny_pure ?_
    split
    · rename_i c _ _ _ _ _
      cases (c == Value.type "enumerate")
      · wp_walk using step
        exact ⟨_, rfl, z⟩
      · wp_walk using step
        exact ⟨_, rfl, z⟩
    · wp_walk using step
      exact ⟨_, rfl, z⟩
section
variable {prog : Program} {w : World} {A : Around} {E : Value → Shared → Prop} {s : Shared}
theorem enT_call {t : Addr} {zs : Array Value} {Q : Value → Shared → Prop} (ht : s.heap.IsTuple t zs)
    (k : ∀ h', IsEnum h' (s.heap.objs.size + 1) s.heap.objs.size 0 .none → h'.IsTupleIter s.heap.objs.size t 0 → h'.objs.size = s.heap.objs.size + 2 →
      (∀ b o, s.heap.get? b = some o → h'.get? b = some o) → Q (.ref (s.heap.objs.size + 1)) { s with heap := h' }) :
    wpAny (model prog w) A (call (.type "enumerate") [.ref t]) Q E s := by
  refine callType_new F.called_enumerate (by decide) (F.typeCall_enumerate_1 _) (F.newCall_enumerate_1 _) (fun obj => F.args_object_init_2 obj _) F.entry_enumerate_new (enT_new t zs) ⟨ht, ?_⟩
  have ez : (s.heap.push { cls := .type "tuple_iterator", data := .fields #[.ref t, .int 0 0] }).objs.size = s.heap.objs.size + 1 := Heap.size_push ..
  show _ ∧ _
  rw [ez]
  have en : IsEnum ((s.heap.push { cls := .type "tuple_iterator", data := .fields #[.ref t, .int 0 0] }).push { cls := .type "enumerate", data := .fields #[.none, .bool false, .ref s.heap.objs.size, rawInt 0, .none, .none] })
      (s.heap.objs.size + 1) s.heap.objs.size 0 .none := by
    have y := Heap.get?_push_size (s.heap.push { cls := .type "tuple_iterator", data := .fields #[.ref t, .int 0 0] }) (o := { cls := .type "enumerate", data := .fields #[.none, .bool false, .ref s.heap.objs.size, rawInt 0, .none, .none] }) rfl
    rw [ez] at y; exact y
  exact ⟨⟨_, en, rfl⟩, k _ en ⟨_, Heap.get?_push_of_some _ (Heap.get?_push_size _ rfl), rfl, rfl⟩ (by rw [Heap.size_push, ez]) fun b o x => Heap.get?_push_of_some _ (Heap.get?_push_of_some _ x)⟩
theorem enT_end {e it t : Addr} {i : Nat} {zs : Array Value} {old : Value} {Q : Option Value → Shared → Prop} (hh : A.handled = none) (he : IsEnum s.heap e it i old) (hit : s.heap.IsTupleIter it t i) (ht : s.heap.IsTuple t zs) (hx : zs.size ≤ i)
    (k : ∀ h', Heap.ExtBut it s.heap h' → Q none { s with heap := h' }) : wpAny (model prog w) A (pyNext (.ref e)) Q E s := by
  have hT : s.TypeIs (.ref e) "enumerate" := ⟨_, he, rfl⟩
  unfold pyNext
  refine wpAny_bind (wpAny_attempt (wpAny_callSpecial?_slot (name := Str.ofString "__next__") hT F.slot_enumerate_next (wpAny_call_entry F.slot_enumerate_next hT F.entry_enumerate_next ?_ (F.args_enumerate_next_1 _))))
  show wpAny _ _ (field (.ref e) 2 >>= _) _ _ _
  refine wpAny_bind (wpAny_field he rfl (x := .ref it) rfl (wpAny_bind (wpAny_nextOf_tuple_end (show A.in1.handled = none from hh) hit ht (Array.getElem?_eq_none hx) fun h' x eb hx' => ?_)))
  obtain ⟨o, ho, hc⟩ := hx'
  exact wpAny_bind (wpAny_isInstance (T := "StopIteration") (b := true) ⟨o, ho, hc⟩ isSubtype_stop (wpAny_pure (k _ eb)))
end
/-- the tuple at a, each item in a new pair with its place -/
def Iet (K : PySem.W.Frag) (a : Addr) : It :=
  ⟨fun i H => ∃ (xs : List V) (x : V), SqT K H a xs ∧ xs[i]? = some x, fun i H v H' => ∃ T x, v = .ref T ∧ H T = none ∧ H' = upd H T (.tup [.int (i : Nat), x]) ∧ ∀ xs, SqT K H a xs → xs[i]? = some x, fun i H => ∃ xs : List V, SqT K H a xs ∧ xs.length ≤ i⟩
theorem turn_enT {P : Program} {w : World} {K : PySem.W.Frag} {elts : List PySem.Expr} {kk : Nat} {tpos : Pos} (a e it : Addr) (ae : a ≠ e) (ai : a ≠ it) :
    Turn P w K (.Tuple elts kk tpos) (Iet K a) [e, it] e (fun i h => (∃ old, IsEnum h e it ((i : Nat) : Int) old) ∧ h.IsTupleIter it a i ∧ e ≠ it) where
  mem := List.mem_cons_self ..
  obj := fun i h st b hb => by
    obtain ⟨⟨old, he⟩, ⟨o, ho, hc, hd⟩, _⟩ := st
    rcases List.mem_cons.mp hb with z | z
    · rw [z]; exact ⟨_, he, fun v q => nomatch q⟩
    · rw [List.mem_singleton.mp z]; exact ⟨o, ho, fun v q => by rw [hd] at q; cases q⟩
  keep := fun i h h' st k => by
    obtain ⟨⟨old, he⟩, hi, hne⟩ := st
    exact ⟨⟨old, k e (List.mem_cons_self ..) _ he⟩, hi.at fun o q => k it (List.mem_cons_of_mem _ (List.mem_singleton.mpr rfl)) o q, hne⟩
  item := by
    intro X hP hw hK hc i pins s σ H E I hf st hg
    subst hP hw hK
    obtain ⟨⟨old, he⟩, hit, hne⟩ := st
    obtain ⟨xs, x, hq, hx⟩ := hg
    obtain ⟨its, rv, p, hz⟩ := I.tuple hq
    obtain ⟨u, hu, ru⟩ := rv.get hx
    have il : i < its.toArray.size := by
      have := (List.getElem?_eq_some_iff.mp hu).1
      rw [List.size_toArray]; exact this
    have hel : e < s.heap.objs.size := Heap.lt_size he
    have hil : it < s.heap.objs.size := by obtain ⟨_, q, _⟩ := hit; exact Heap.lt_size q
    have D := Draws.tuple (prog := X.prog) (w := X.w) (A := X.A.in1) (show X.A.in1.handled = none from I.ok.hd hc) it a ai its.toArray
    refine wpAny_pyNext_enum_itemD D he ⟨hit, p⟩ il hne (fun m => by
      rcases List.mem_cons.mp m with m | m
      · exact hne m
      · exact ae (List.mem_singleton.mp m).symm) fun x' h' tk px ho hst' hT hsz hk => ?_
    have eu : x' = u := by
      have y : its.toArray[i]? = some u := by rw [List.getElem?_toArray]; exact hu
      rw [px] at y
      exact Option.some.inj y
    subst eu
    refine ⟨_, rfl, wpAny_letOwnedTupleGo_enum (s := { s with heap := h', toks := tk + 1 }) ho fun h'' he' sb => ?_⟩
    have hT2 : h''.get? s.heap.objs.size = some { cls := .type "tuple", data := .seq #[.int i tk, x'] } := (sb.2 _ (Nat.ne_of_gt hel)).trans hT
    have new : ObjOk X.prog X.w (upd H s.heap.objs.size (.tup [.int (i : Nat), x])) h'' s.heap.objs.size (.tup [.int (i : Nat), x]) :=
      ⟨two_le, [.int i tk, x'], .cons ⟨_, rfl⟩ (.cons ru .nil), ⟨_, hT2, rfl, _, rfl⟩⟩
    have J : Inv X pins σ (upd H s.heap.objs.size (.tup [.int (i : Nat), x])) { s with heap := h'', toks := tk + 1 } :=
      I.turnedNew (ch := [e, it]) (fun b ob hb q => (sb.2 b (fun z => hb (z ▸ List.mem_cons_self ..))).trans (hk b ob (fun z => hb (z ▸ List.mem_cons_self ..)) (fun z => hb (z ▸ List.mem_cons_of_mem _ (List.mem_singleton.mpr rfl))) q)) hf (Nat.le_refl _) new
    refine ⟨.ref s.heap.objs.size, _, J, rfl, ⟨_, x, rfl, I.hok.fresh (Nat.le_refl _), rfl, fun ys hy => by rw [I.tuple_inj hy hq]; exact hx⟩, ⟨⟨x', ?_⟩, hst'.1.at fun o q => (sb.2 it (Ne.symm hne)).trans q, hne⟩, fun b hb => ?_⟩
    · rw [show ((i + 1 : Nat) : Int) = (i : Int) + 1 by omega]; exact he'
    · have lb : b < s.heap.objs.size := by
        rcases List.mem_cons.mp hb with z | z
        · rw [z]; exact hel
        · rw [List.mem_singleton.mp z]; exact hil
      rw [upd_ne (Nat.ne_of_lt lb)]
      exact (hf b hb).1
  done := by
    intro X hP hw hK hc i pins s σ H E I hf st hg
    subst hP hw hK
    obtain ⟨⟨old, he⟩, hit, hne⟩ := st
    obtain ⟨xs, hq, hx⟩ := hg
    obtain ⟨its, rv, p, hz⟩ := I.tuple hq
    obtain ⟨f0, f1, f2, f3, f4, f5⟩ := hf it (List.mem_cons_of_mem _ (List.mem_singleton.mpr rfl))
    have hl := rv.length
    exact enT_end (I.ok.hd hc) he hit p (by rw [List.size_toArray]; omega) fun h' eb => ⟨rfl, I.turned (t' := s.toks) (fun b o hb q => eb b o hb q) f0 f1 f3 f4 f5⟩
  self := fun A i s Q E st h => by
    obtain ⟨⟨_, he⟩, _⟩ := st
    exact wpAny_pyIter_enum he h
def iEnT (K : PySem.W.Frag) (ta : TA) : TI := fun σ H R => ta σ H fun vs H1 => ∃ a xs, vs = [.ref a] ∧ SqT K H1 a xs ∧ R (Iet K a) H1
theorem pi_enT {X : Cx} {e : PySem.Expr} {ta : TA} {p pos tpos : Pos} {elts : List PySem.Expr} {kk : Nat} (hg : Gl X "enumerate") (hm : X.mg "enumerate" = none) (ha : PA X [e] ta) (hs : starEach [e] X.env = [(false, eval e X.env)] := by rfl) :
    L2.PI X (.Tuple elts kk tpos) (.Call (.Name "enumerate" p) [e] [] pos) (iEnT X.K ta) := by
  refine ⟨fun pins s σ H R I h => Call_ (ld_blt I hg hm boot_enumerate (PyProof.Rows.callWith_type1 (thn (ha.run pos pins s σ H _ I h) fun us s1 ⟨vs, H1, J, r1, q1⟩ => ?_) hs rfl))⟩
  obtain ⟨a, xs, ex, hq, q⟩ := q1
  subst ex
  cases r1 with
  | cons r rr =>
    cases rr
    cases r
    obtain ⟨its, rv, p', hz⟩ := J.tuple hq
    have la : a < s1.heap.objs.size := p'.lt
    refine enT_call p' fun h' he hit hsz hk => wpAny_pyIter_enum he ?_
    have J2 : Inv X pins σ H1 { s1 with heap := h' } := J.kept (t' := s1.toks) hk
    refine ⟨s1.heap.objs.size + 1, [s1.heap.objs.size + 1, s1.heap.objs.size], _, _, H1, rfl, J2, turn_enT a (s1.heap.objs.size + 1) s1.heap.objs.size (Nat.ne_of_lt (Nat.lt_succ_of_lt la)) (Nat.ne_of_lt la), ⟨⟨.none, he⟩, hit, Nat.succ_ne_self _⟩, fun b hb => ?_, q⟩
    have lb : s1.heap.objs.size ≤ b := by
      rcases List.mem_cons.mp hb with z | z
      · rw [z]; exact Nat.le_add_right _ _
      · rw [List.mem_singleton.mp z]; exact Nat.le_refl _
    exact J.fpOk lb (J.hok.fresh lb)
theorem walk_enT {K : PySem.W.Frag} {a : Addr} {xs : List V} : Walk (Iet K a) xs.length (fun H => SqT K H a xs) (YPair (fun i => some (.int (i : Nat))) (fun i => xs[i]?)) := by
  refine ⟨fun i _ hi q => ⟨xs, xs[i], q, List.getElem?_eq_getElem hi⟩, fun _ q => ⟨xs, q, Nat.le_refl _⟩, fun i H v H' _ q y => ?_⟩
  obtain ⟨T, x, h1, h2, h3, h4⟩ := y
  exact ⟨T, .int (i : Nat), x, h1, h2, h3, rfl, h4 xs q⟩
/-- sorted(d) of a dict whose keys are ints -/
@[irreducible] def rSortDI : List V → Hp → VK → Prop := fun xs H Q => ∃ (a : Addr) (kvs : List (Key × V)) (ks : List Int), xs = [.ref a] ∧ Rd H a (.dK kvs) ∧ kvs.map (·.1) = ks.map Sum.inl ∧
  ∀ (ys : List Int) (p : Addr), ys.Perm ks → ys.Pairwise (· ≤ ·) → H p = none → Q (.ref p) (upd H p (.lst (ys.map V.int)))
theorem ints_at : ∀ {vs : List Value} {ns : List Int}, vs.length = ns.length → (∀ (j : Nat) (v : Value), vs[j]? = some v → ∃ i t, ns[j]? = some i ∧ v = Value.int i t) → IntsAre vs ns
  | [], [], _, _ => .nil
  | v :: vs, n :: ns, l, h => by
    obtain ⟨i, t, e, rfl⟩ := h 0 v rfl
    cases (show some n = some i from e)
    exact .cons n t (ints_at (by simpa using l) fun j u z => h (j + 1) u z)
  | [], _ :: _, l, _ => by simp at l
  | _ :: _, [], l, _ => by simp at l
theorem call_sortDI {X : Cx} (hc : X.calm = true) : CallR X (.builtin "sorted") rSortDI := by
  intro pins s σ H xs us Q I r q
  unfold rSortDI at q
  obtain ⟨a, kvs, ks, rfl, hd, hks, q⟩ := q
  rw [Vals.ref1 r]
  obtain ⟨z, lo, vs, rel, dd⟩ := dk_rd I.hok hd
  obtain ⟨ep, hat⟩ := dd.dictAt
  have hkeys : vs.map (·.1) = ks.map Sum.inl := rel.keys.symm.trans hks
  have hl : vs.length = ks.length := by
    have e := congrArg List.length hkeys
    rw [List.length_map, List.length_map] at e; exact e
  have hz : vs.length ≤ sizeLine := by rw [← rel.length]; exact z
  refine Calls.call_function_entry PyProof.Rows.kind_sorted PyProof.Rows.plain_sorted PyProof.Rows.entry_sorted (PyProof.Rows.args_sorted1 _) ?_
  unfold Builtin.«sorted»
  refine wpAny_bind (m := checkCount "sorted" 1 1 _) (wpAny_pure (wpAny_bind (PySem.W.kdu_collect (A := X.A.in1) (PySem.W.kdl_dict (knd := mixKind X.prog X.w) (kvs := vs) (ep := ep) lo) (I.ok.hd hc) hat hz fun h' tk acc hk hacc => ?_)))
  have hal : acc.toList.length = ks.length := by rw [Array.length_toList, hacc.1, hl]
  have hS : IntsAre acc.toList ks := ints_at hal fun j v e => by
    obtain ⟨k, x, e1, e2⟩ := hacc.2 j v (by rw [← Array.getElem?_toList]; exact e)
    have e3 : (vs.map (·.1))[j]? = some k := by rw [List.getElem?_map, e1]; rfl
    rw [hkeys, List.getElem?_map] at e3
    cases e4 : ks[j]? with
    | none => rw [e4] at e3; cases e3
    | some y =>
      rw [e4] at e3
      have e5 : Sum.inl y = k := Option.some.inj e3
      subst e5
      rcases keyIs_shape (show keyIs (Sum.inl y) v = true from e2) with ⟨i, t, ek, ev⟩ | ⟨w', t, ek, ev⟩
      · cases ek; exact ⟨y, t, rfl, ev⟩
      · cases ek
  have J : Inv X pins σ H { s with heap := h', toks := tk } := I.kept hk
  refine wpAny_bind (wpAny_newList ?_ (by rw [hal, ← hl]; exact hz))
  have hoL : (h'.push (seqObj "list" acc.toList.toArray 0)).get? h'.objs.size = some (seqObj "list" acc.toList.toArray 0) := Heap.get?_push_size _ rfl
  show wpAny _ _ _ _ _ { s with heap := h'.push (seqObj "list" acc.toList.toArray 0), toks := tk }
  refine wpAny_bind (wpAny_holding (wpAny_call_entry PyProof.Rows.slot_list_sort ⟨_, hoL, rfl⟩ PyProof.Rows.entry_list_sort
    (SrtO.list_sort_ord (s := { s with heap := h'.push (seqObj "list" acc.toList.toArray 0), toks := tk }) SrtO.swo_int hoL (by rw [hal, ← hl]; exact hz) (fun h2 => SrtO.ints_sortable hS h2) fun out k1 k2 => ⟨_, rfl, ?_⟩) (PyProof.Rows.args_list_sort _)))
  obtain ⟨g1, g2, g3⟩ := SrtO.ints_out hS k1 k2
  obtain ⟨e', he'⟩ := PyProof.Rows.sortedHeap_at (vs := acc.toList) (out := out.toArray) hoL
  have hlen : ((out.map SrtO.iv).map V.int).length ≤ sizeLine := by rw [List.length_map, g2.length_eq, ← hl]; exact hz
  refine wpAny_pure ⟨_, rfl, .ref h'.objs.size, upd H h'.objs.size (.lst ((out.map SrtO.iv).map V.int)), J.laid (t' := tk) (fun b u e => ?_) (Nat.le_refl _)
    (show ObjOk X.prog X.w _ _ _ (.lst ((out.map SrtO.iv).map V.int)) from ⟨hlen, out, e', vals_of_ints g1, he'⟩), rfl, q _ _ g2 g3 (J.hok.fresh (Nat.le_refl _))⟩
  have hb : b < h'.objs.size := Heap.lt_size e
  rw [PyProof.Rows.sortedHeap_old (Nat.ne_of_lt hb) (by rw [Heap.size_push]; exact Nat.lt_succ_of_lt hb)]
  exact Heap.get?_push_of_some _ e
end
/-! ### dicts keyed by data: tuples in tuples -/
section
open PySem.Spec PyProof.Rows
mutual
def keyD : PyData → NestedKey
  | .int i => .num i
  | .str x => .text x
  | .tuple xs => .tup (keyDs xs)
  | _ => .none
def keyDs : List PyData → List NestedKey
  | [] => []
  | d :: ds => keyD d :: keyDs ds
end
mutual
def kable : PyData → Bool
  | .none => true
  | .int _ => true
  | .str _ => true
  | .tuple xs => kables xs
  | _ => false
def kables : List PyData → Bool
  | [] => true
  | d :: ds => kable d && kables ds
end
mutual
theorem keyD_eqv : ∀ a b : PyData, kable a = true → kable b = true → (keyD a = keyD b ↔ PyData.eqv a b = true)
  | .none, b, _, hb => by cases b <;> simp_all [keyD, PyData.eqv, kable]
  | .int i, b, _, hb => by cases b <;> simp_all [keyD, PyData.eqv, kable]
  | .str x, b, _, hb => by cases b <;> simp_all [keyD, PyData.eqv, kable]
  | .tuple xs, .tuple ys, ha, hb => by
    rw [keyD, keyD, PyData.eqv, NestedKey.tup.injEq]
    exact keyDs_eqv xs ys (by rw [kable] at ha; exact ha) (by rw [kable] at hb; exact hb)
  | .tuple xs, .none, _, _ => by simp [keyD, PyData.eqv]
  | .tuple xs, .int _, _, _ => by simp [keyD, PyData.eqv]
  | .tuple xs, .str _, _, _ => by simp [keyD, PyData.eqv]
  | .tuple xs, .bool _, _, hb => by simp [kable] at hb
  | .tuple xs, .list _, _, hb => by simp [kable] at hb
  | .tuple xs, .dict _, _, hb => by simp [kable] at hb
  | .bool _, _, ha, _ => by simp [kable] at ha
  | .list _, _, ha, _ => by simp [kable] at ha
  | .dict _, _, ha, _ => by simp [kable] at ha
theorem keyDs_eqv : ∀ a b : List PyData, kables a = true → kables b = true → (keyDs a = keyDs b ↔ PyData.eqvAll a b = true)
  | [], [], _, _ => by simp [keyDs, PyData.eqvAll]
  | [], _ :: _, _, _ => by simp [keyDs, PyData.eqvAll]
  | _ :: _, [], _, _ => by simp [keyDs, PyData.eqvAll]
  | a :: as, b :: bs, ha, hb => by
    rw [kables, Bool.and_eq_true] at ha hb
    rw [keyDs, keyDs, PyData.eqvAll, Bool.and_eq_true, List.cons.injEq, keyD_eqv a b ha.1 hb.1, keyDs_eqv as bs ha.2 hb.2]
end
mutual
theorem keyD_depth : ∀ d : PyData, (keyD d).depth ≤ d.depth
  | .none => by simp [keyD, NestedKey.depth]
  | .int _ => by simp [keyD, NestedKey.depth]
  | .str _ => by simp [keyD, NestedKey.depth]
  | .bool _ => by simp [keyD, NestedKey.depth]
  | .list _ => by simp [keyD, NestedKey.depth]
  | .dict _ => by simp [keyD, NestedKey.depth]
  | .tuple xs => by
    rw [keyD, NestedKey.depth, PyData.depth]
    exact Nat.succ_le_succ (keyDs_depth xs)
theorem keyDs_depth : ∀ ds : List PyData, NestedKey.depthAll (keyDs ds) ≤ PyData.depthAll ds
  | [] => by simp [keyDs, NestedKey.depthAll]
  | d :: ds => by
    have h1 := keyD_depth d
    have h2 := keyDs_depth ds
    rw [keyDs, NestedKey.depthAll, PyData.depthAll]
    omega
end
section
variable {X : Cx} {pins : List (Addr × Obj)} {σ : L2.St} {H : Hp} {s : Shared}
mutual
theorem key_at (I : Inv X pins σ H s) : ∀ (d : PyData) (v : V) (u : Value), kable d = true → Dp X.K H v d → RelV v u → NestedIs s.heap (keyD d) u
  | .none, _, _, _, hd, r => by cases hd; cases r; exact .none
  | .int i, _, _, _, hd, r => by cases hd; obtain ⟨t, rfl⟩ := r; exact .int _ _
  | .str x, _, _, _, hd, r => by cases hd; obtain ⟨t, rfl⟩ := r; exact .text _ _
  | .tuple ds, _, _, hk, hd, r => by
    cases hd with
    | tup hs ha =>
      cases r
      obtain ⟨its, rv, ⟨o, ho, hc, n, hdt⟩, _⟩ := I.tuple hs
      exact .tup ho hc hdt (by simpa using keys_at I ds _ its (by rw [kable] at hk; exact hk) ha rv)
  | .bool _, _, _, hk, _, _ => by simp [kable] at hk
  | .list _, _, _, hk, _, _ => by simp [kable] at hk
  | .dict _, _, _, hk, _, _ => by simp [kable] at hk
theorem keys_at (I : Inv X pins σ H s) : ∀ (ds : List PyData) (vs : List V) (us : List Value), kables ds = true → DpAll X.K H vs ds → Vals vs us → NestedAll s.heap (keyDs ds) us
  | [], _, _, _, hd, r => by cases hd; cases r; exact .nil
  | d :: ds, _, _, hk, hd, r => by
    rw [kables, Bool.and_eq_true] at hk
    cases hd with
    | cons h1 h2 =>
      cases r with
      | cons r1 r2 => exact .cons (key_at I d _ _ hk.1 h1 r1) (keys_at I ds _ _ hk.2 h2 r2)
end
end
/-- a key, the place of its tuple, the value -/
abbrev Ne := NestedKey × Addr × V
def RelN : List Ne → List (NestedKey × Addr × Value) → Prop := Paired fun p q => p.1 = q.1 ∧ p.2.1 = q.2.1 ∧ RelV p.2.2 q.2.2
def NOk (P : Program) (w : World) (a : Addr) (xs : List Ne) (h : Heap) : Prop := xs.length ≤ sizeLine ∧ (a == sysModules) = false ∧ ∃ ys, RelN xs ys ∧
  ∃ o es ep, h.get? a = some o ∧ o.ExactDict ∧ o.data = .dict es ep ∧ es.toList = ys.map (entryOfKey (nestedKind P w)) ∧ (ys.map (·.1)).Nodup
/-- a dict of such keys -/
def DictN (P : Program) (w : World) (a : Addr) (xs : List Ne) : HO := .ext (NOk P w a xs)
theorem NOk.obj {P : Program} {w : World} {a : Addr} {xs : List Ne} {h : Heap} {H : Hp} (x : NOk P w a xs h) : ObjOk P w H h a (DictN P w a xs) := by
  refine ⟨x, ?_, fun h1 h2 y k => ?_⟩
  · obtain ⟨_, _, _, _, o, _, _, e, _⟩ := x
    exact ⟨o, e⟩
  · obtain ⟨z1, z2, ys, r, o, es, ep, e, c⟩ := y
    exact ⟨z1, z2, ys, r, o, es, ep, k _ e, c⟩
def valN (xs : List Ne) (k : NestedKey) : Option V := (xs.find? fun x => decide (x.1 = k)).map (·.2.2)
def putN (xs : List Ne) (k : NestedKey) (b : Addr) (v : V) : List Ne := if (valN xs k).isSome then xs.map (fun x => if x.1 = k then (x.1, x.2.1, v) else x) else xs ++ [(k, b, v)]
theorem RelN.val {xs : List Ne} {ys : List (NestedKey × Addr × Value)} (r : RelN xs ys) (k : NestedKey) : RelO (valN xs k) ((atKey ys k).map (·.2)) := by
  induction r with
  | nil => exact True.intro
  | @cons p q ps qs h t ih =>
    obtain ⟨h1, h2, h3⟩ := h
    unfold valN atKey at ih ⊢
    rw [List.find?_cons, List.find?_cons]
    by_cases e : p.1 = k
    · rw [decide_eq_true e, decide_eq_true (h1 ▸ e)]
      exact h3
    · rw [decide_eq_false e, decide_eq_false (h1 ▸ e)]
      exact ih
theorem RelN.put {xs : List Ne} {ys : List (NestedKey × Addr × Value)} (r : RelN xs ys) (k : NestedKey) (b : Addr) {v : V} {u : Value} (rv : RelV v u) : RelN (putN xs k b v) (storedH ys k b u) := by
  have e : (valN xs k).isSome = (atKey ys k).isSome := by
    rw [(r.val k).isSome_eq, Option.isSome_map]
  unfold putN storedH
  rw [e]
  by_cases h : (atKey ys k).isSome = true
  · rw [if_pos h, if_pos h]
    clear e h
    induction r with
    | nil => exact .nil
    | @cons p q ps qs hpq t ih =>
      obtain ⟨h1, h2, h3⟩ := hpq
      refine .cons ?_ ih
      unfold putAt
      dsimp only
      by_cases e : p.1 = k
      · rw [if_pos e, if_pos (h1 ▸ e)]; exact ⟨h1, h2, rv⟩
      · rw [if_neg e, if_neg (h1 ▸ e)]; exact ⟨h1, h2, h3⟩
  · rw [if_neg h, if_neg h]
    clear e h
    induction r with
    | nil => exact .cons ⟨rfl, rfl, rv⟩ .nil
    | cons hpq t ih => exact .cons hpq ih
/-- the keys stand yet -/
def KeysN (K : PySem.W.Frag) (H : Hp) (xs : List Ne) : Prop := ∀ t ∈ xs, ∃ d, keyD d = t.1 ∧ kable d = true ∧ d.depth ≤ 8 ∧ Dp K H (.ref t.2.1) d
section
variable {X : Cx} {pins : List (Addr × Obj)} {σ : L2.St} {H : Hp} {s : Shared} {a : Addr} {xs : List Ne}
theorem n_of (I : Inv X pins σ H s) (e : H a = some (DictN X.prog X.w a xs)) (hk : KeysN X.K H xs) : xs.length ≤ sizeLine ∧ (a == sysModules) = false ∧ ∃ ys, RelN xs ys ∧ s.heap.DictOfH (nestedKind X.prog X.w) a ys := by
  obtain ⟨⟨z1, z2, ys, r, o, es, ep, e1, e2, e3, e4, e5⟩, _⟩ := (show ObjOk X.prog X.w H s.heap a (DictN X.prog X.w a xs) from I.hok a _ e)
  refine ⟨z1, z2, ys, r, o, es, ep, e1, e2, e3, e4, ?_, e5⟩
  have all : ∀ {xs : List Ne} {ys : List (NestedKey × Addr × Value)}, RelN xs ys → KeysN X.K H xs → ∀ x ∈ ys, (nestedKind X.prog X.w).is s.heap x.1 x.2.1 := by
    intro xs ys r
    induction r with
    | nil => intro _ x hx; exact nomatch hx
    | @cons p q ps qs h t ih =>
      intro hk x hx
      obtain ⟨h1, h2, h3⟩ := h
      rcases List.mem_cons.mp hx with e | hx
      · subst e
        obtain ⟨d, k1, k2, k3, k4⟩ := hk p (List.mem_cons_self ..)
        rw [← h1, ← h2, ← k1]
        exact ⟨key_at I d _ _ k2 k4 rfl, Nat.le_trans (keyD_depth d) k3⟩
      · exact ih (fun t m => hk t (List.mem_cons_of_mem _ m)) x hx
  exact all r hk
end
/-- what the dict at a holds at the key y -/
def NGet (X : Cx) (H : Hp) (a : Addr) (y : V) (o : Option V) : Prop := ∃ xs b d, H a = some (DictN X.prog X.w a xs) ∧ KeysN X.K H xs ∧ y = .ref b ∧ Dp X.K H y d ∧ kable d = true ∧ d.depth ≤ 8 ∧ o = valN xs (keyD d)
def NPut (X : Cx) (H : Hp) (a : Addr) (y v : V) (H' : Hp) : Prop := ∃ xs b d, H a = some (DictN X.prog X.w a xs) ∧ KeysN X.K H xs ∧ y = .ref b ∧ Dp X.K H y d ∧ kable d = true ∧ d.depth ≤ 8 ∧ xs.length < sizeLine ∧ H' = upd H a (DictN X.prog X.w a (putN xs (keyD d) b v))
theorem putN_len (xs : List Ne) (k : NestedKey) (b : Addr) (v : V) : (putN xs k b v).length ≤ xs.length + 1 := by
  unfold putN
  split
  · rw [List.length_map]; omega
  · rw [List.length_append]; exact Nat.le_refl _
section
variable {X : Cx} {pins : List (Addr × Obj)} {σ : L2.St} {H : Hp} {s : Shared} {a : Addr} {y v : V} {u r : Value} {o : Option V} {A : Around} {E : Value → Shared → Prop}
theorem n_in {Q : Value → Shared → Prop} (hu : A.units + 9 < cLine) (I : Inv X pins σ H s) (g : NGet X H a y o) (ry : RelV y u) (h : ∀ s', Inv X pins σ H s' → Q (.bool o.isSome) s') : wpAny (model X.prog X.w) A (compareOp .In u (.ref a)) Q E s := by
  obtain ⟨xs, b, d, e, hk, rfl, hd, kd, dd, l⟩ := g
  cases (show u = Value.ref b from ry)
  obtain ⟨z, zd, ys, rel, D⟩ := n_of I e hk
  refine wpAny_in_heap (knd := nestedKind X.prog X.w) (show A.units + 1 + 8 < cLine by omega) ⟨key_at I d _ _ kd hd rfl, Nat.le_trans (keyD_depth d) dd⟩ zd D ?_
  have q := (rel.val (keyD d)).isSome_eq
  rw [Option.isSome_map] at q
  rw [← q, ← l]
  exact h _ (I.tok _)
theorem n_notIn {Q : Value → Shared → Prop} (hu : A.units + 9 < cLine) (I : Inv X pins σ H s) (g : NGet X H a y o) (ry : RelV y u) (h : ∀ s', Inv X pins σ H s' → Q (.bool (!o.isSome)) s') : wpAny (model X.prog X.w) A (compareOp .NotIn u (.ref a)) Q E s := by
  obtain ⟨xs, b, d, e, hk, rfl, hd, kd, dd, l⟩ := g
  cases (show u = Value.ref b from ry)
  obtain ⟨z, zd, ys, rel, D⟩ := n_of I e hk
  refine wpAny_notIn_heap (knd := nestedKind X.prog X.w) (show A.units + 1 + 8 < cLine by omega) ⟨key_at I d _ _ kd hd rfl, Nat.le_trans (keyD_depth d) dd⟩ zd D ?_
  have q := (rel.val (keyD d)).isSome_eq
  rw [Option.isSome_map] at q
  rw [← q, ← l]
  exact h _ (I.tok _)
theorem n_item {Q : Value → Shared → Prop} (hu : A.units + 9 < cLine) (I : Inv X pins σ H s) (g : NGet X H a y (some v)) (ry : RelV y u) (h : ∀ w' s', Inv X pins σ H s' → RelV v w' → Q w' s') : wpAny (model X.prog X.w) A (getItem (.ref a) u) Q E s := by
  obtain ⟨xs, b, d, e, hk, rfl, hd, kd, dd, l⟩ := g
  cases (show u = Value.ref b from ry)
  obtain ⟨z, zd, ys, rel, D⟩ := n_of I e hk
  obtain ⟨w', hw, rw'⟩ := RelO.some_of (v := v) (o := (atKey ys (keyD d)).map (·.2)) (by rw [l]; exact rel.val _)
  obtain ⟨p, hp, hp2⟩ := Option.map_eq_some_iff.mp hw
  refine wpAny_getItem_heap (knd := nestedKind X.prog X.w) (show A.units + 1 + 8 < cLine by omega) ⟨key_at I d _ _ kd hd rfl, Nat.le_trans (keyD_depth d) dd⟩ D hp ?_
  rw [hp2]
  exact h w' _ (I.tok _) rw'
theorem n_set {H' : Hp} {Q : Unit → Shared → Prop} (hu : A.units + 9 < cLine) (I : Inv X pins σ H s) (g : NPut X H a y v H') (ry : RelV y u) (rv : RelV v r) (h : ∀ s', Inv X pins σ H' s' → Q () s') : wpAny (model X.prog X.w) A (setItem (.ref a) u r) Q E s := by
  obtain ⟨xs, b, d, e, hk, rfl, hd, kd, dd, l, rfl⟩ := g
  cases (show u = Value.ref b from ry)
  obtain ⟨z, zd, ys, rel, D⟩ := n_of I e hk
  have hz : ys.length ≤ sizeLine := by rw [← Paired.length rel]; exact z
  have hl : (putN xs (keyD d) b v).length ≤ sizeLine := by have := putN_len xs (keyD d) b v; omega
  refine wpAny_setItem_heap (hsz := hz) (knd := nestedKind X.prog X.w) (show A.units + 1 + 8 < cLine by omega) ⟨key_at I d _ _ kd hd rfl, Nat.le_trans (keyD_depth d) dd⟩ D fun h' D' hs => h _ ?_
  obtain ⟨q, es, ep, hq, h2, h3, h4, _, h5⟩ := D'
  exact d_write I (by rw [e]; exact True.intro) hs ⟨q, hq⟩ (NOk.obj ⟨hl, zd, _, rel.put _ b rv, q, es, ep, hq, h2, h3, h4, h5⟩)
end
/-! the rules -/
def tNNew (P : Program) (w : World) : TE := fun _ H Q => ∀ p, H p = none → Q (.ref p) (upd H p (DictN P w p []))
def tNIn (X : Cx) (n : Bool) (ty td : TE) : TE := fun σ H Q => ty σ H fun y H1 => td σ H1 fun x H2 => ∃ a o, x = .ref a ∧ NGet X H2 a y o ∧ Q (.bl (if n then !o.isSome else o.isSome)) H2
def tNGet (X : Cx) (td ty : TE) : TE := fun σ H Q => td σ H fun x H1 => ty σ H1 fun y H2 => ∃ a v, x = .ref a ∧ NGet X H2 a y (some v) ∧ Q v H2
def sNPut (X : Cx) (td ty tv : TE) : TS := fun D σ H => tv σ H fun v H1 => td σ H1 fun x H2 => ty σ H2 fun y H3 => ∃ a H4, x = .ref a ∧ NPut X H3 a y v H4 ∧ D.nx σ H4
section
variable {X : Cx} {o i value : PySem.Expr} {pos pos' : Pos} {td ty tv : TE}
theorem pe_nnew : PE X (.Dict [] [] pos) (tNNew X.prog X.w) := ⟨fun pins s σ H Q I h => by
  refine wpAny_Dict_empty ⟨.ref s.heap.objs.size, _, I.laid (a := s.heap.objs.size) (o := DictN X.prog X.w s.heap.objs.size []) (t' := s.toks) (fun _ _ q => Heap.get?_push_of_some _ q) (Nat.le_refl _) ?_, rfl, h _ (I.hok.fresh (Nat.le_refl _))⟩
  exact NOk.obj ⟨Nat.zero_le _, beq_eq_false_iff_ne.mpr (Ne.symm (Nat.ne_of_lt I.big)), [], .nil, _, #[], 0, Heap.get?_push_size _ rfl, ⟨rfl, rfl, rfl⟩, rfl, rfl, List.nodup_nil⟩⟩
theorem pc_nin (hu : X.A.units + 9 < cLine) (hi : PE X i ty) (ho : PE X o td) : PC X .In i o (tNIn X false ty td) := by
  refine ⟨fun pins s σ H Q I h => thn (hi.run pins s σ H _ I h) fun iv s1 ⟨y, H1, J1, ry, q1⟩ => thn (ho.run pins s1 σ H1 _ J1 q1) fun u s2 ⟨x, H2, J2, rx, a, ov, ex, g, q2⟩ => ?_⟩
  subst ex
  obtain rfl : u = Value.ref a := rx
  exact n_in hu J2 g ry fun s3 J3 => ⟨.bl ov.isSome, H2, J3, rfl, q2⟩
theorem pc_nnotin (hu : X.A.units + 9 < cLine) (hi : PE X i ty) (ho : PE X o td) : PC X .NotIn i o (tNIn X true ty td) := by
  refine ⟨fun pins s σ H Q I h => thn (hi.run pins s σ H _ I h) fun iv s1 ⟨y, H1, J1, ry, q1⟩ => thn (ho.run pins s1 σ H1 _ J1 q1) fun u s2 ⟨x, H2, J2, rx, a, ov, ex, g, q2⟩ => ?_⟩
  subst ex
  obtain rfl : u = Value.ref a := rx
  exact n_notIn hu J2 g ry fun s3 J3 => ⟨.bl (!ov.isSome), H2, J3, rfl, q2⟩
theorem ps_nput (hu : X.A.units + 9 < cLine) (ho : PE X o td) (hi : PE X i ty) (hv : PE X value tv) (hs : swapsWith value (some (.Subscript o i pos')) pos.line X.env = pure false) : PS X (.Assign [.Subscript o i pos'] value pos) (sNPut X td ty tv) := by
  refine ⟨fun pins s σ H D I h => wpAny_Assign_Subscript (thn (hv.run pins s σ H _ I h) fun r s1 ⟨v, H1, J1, rv, q1⟩ => thn (ho.run pins s1 σ H1 _ J1 q1) fun u s2 ⟨x, H2, J2, rx, q2⟩ => thn (hi.run pins s2 σ H2 _ J2 q2) fun iv s3 ⟨y, H3, J3, ry, a, H4, ex, g, q3⟩ => ?_) hs⟩
  subst ex
  obtain rfl : u = Value.ref a := rx
  exact n_set hu J3 g ry rv fun s4 J4 => ⟨σ, H4, J4, q3⟩
end
/-! the same, of typed data -/
abbrev DL (α : Type) := List (Addr × α × V)
def neL {α : Type} [Dat α] (l : DL α) : List Ne := l.map fun t => (keyD (Dat.py t.2.1), t.1, t.2.2)
def DictD (P : Program) (w : World) {α : Type} [Dat α] (a : Addr) (l : DL α) : HO := DictN P w a (neL l)
def hasD {α : Type} [DecidableEq α] (l : DL α) (x : α) : Bool := l.any fun t => decide (t.2.1 = x)
def putD {α : Type} [DecidableEq α] (l : DL α) (b : Addr) (x : α) (v : V) : DL α := if hasD l x = true then l.map (fun t => if t.2.1 = x then (t.1, t.2.1, v) else t) else l ++ [(b, x, v)]
def KeysD {α : Type} [Dat α] (H : Hp) (l : DL α) : Prop := ∀ t ∈ l, Is H (.ref t.1) t.2.1
class Kd (α : Type) [Dat α] : Prop where
  k : ∀ d : α, kable (Dat.py d) = true
instance : Kd Int := ⟨fun _ => by show kable (.int _) = true; rw [kable]⟩
theorem kd_all {α : Type} [Dat α] [Kd α] : ∀ l : List α, kables (l.map Dat.py) = true
  | [] => by rw [List.map_nil, kables]
  | d :: l => by rw [List.map_cons, kables, Kd.k, kd_all l]; rfl
instance {α : Type} [Dat α] [Kd α] : Kd (Tup α) := ⟨fun d => by show kable (.tuple (d.l.map Dat.py)) = true; rw [kable]; exact kd_all d.l⟩
instance {α β : Type} [Dat α] [Dat β] [Kd α] [Kd β] : Kd (T2 α β) := ⟨fun d => by
  show kable (.tuple [Dat.py d.a, Dat.py d.b]) = true
  rw [kable, kables, kables, kables, Kd.k, Kd.k]; rfl⟩
instance {α β γ : Type} [Dat α] [Dat β] [Dat γ] [Kd α] [Kd β] [Kd γ] : Kd (T3 α β γ) := ⟨fun d => by
  show kable (.tuple [Dat.py d.a, Dat.py d.b, Dat.py d.c]) = true
  rw [kable, kables, kables, kables, kables, Kd.k, Kd.k, Kd.k]; rfl⟩
section
variable {α : Type} [Dat α] [DecidableEq α] [Kd α]
theorem keyD_inj (a b : α) : (keyD (Dat.py a) = keyD (Dat.py b)) = (a = b) := propext ((keyD_eqv _ _ (Kd.k a) (Kd.k b)).trans (Dat.eqv a b))
theorem KeysD.n {K : PySem.W.Frag} {H : Hp} {l : DL α} (h : KeysD H l) (hl : Dat.dep α ≤ 8) : KeysN K H (neL l) := fun t m => by
  obtain ⟨x, mx, rfl⟩ := List.mem_map.mp m
  exact ⟨Dat.py x.2.1, rfl, Kd.k _, Nat.le_trans (Dat.depth _) hl, Dat.dp (h x mx)⟩
theorem KeysD.up {H H' : Hp} {l : DL α} (h : KeysD H l) (s : Same H H') : KeysD H' l := fun t m => Is.up (h t m) s
theorem valN_neL (x : α) : ∀ l : DL α, (valN (neL l) (keyD (Dat.py x))).isSome = hasD l x
  | [] => rfl
  | t :: l => by
    have ih := valN_neL x l
    unfold valN neL hasD at ih ⊢
    rw [List.map_cons, List.find?_cons, List.any_cons]
    simp only [keyD_inj] at ih ⊢
    by_cases e : t.2.1 = x
    · rw [decide_eq_true e]; rfl
    · rw [decide_eq_false e, Bool.false_or]; exact ih
theorem putN_neL (l : DL α) (b : Addr) (x : α) (v : V) : putN (neL l) (keyD (Dat.py x)) b v = neL (putD l b x v) := by
  unfold putN putD
  rw [valN_neL]
  by_cases h : hasD l x = true
  · rw [if_pos h, if_pos h]
    unfold neL
    rw [List.map_map, List.map_map]
    congr 1
    funext t
    simp only [Function.comp, keyD_inj]
    by_cases e : t.2.1 = x
    · rw [if_pos e, if_pos e]
    · rw [if_neg e, if_neg e]
  · rw [if_neg h, if_neg h]
    unfold neL
    rw [List.map_append]; rfl
theorem NGet.d {X : Cx} {P : Program} {w : World} {H : Hp} {a b : Addr} {l : DL α} {x : α} (h : H a = some (DictD P w a l)) (k : KeysD H l) (hx : Is H (.ref b) x) (hP : X.prog = P := by rfl) (hw : X.w = w := by rfl) (hl : Dat.dep α ≤ 8 := by decide) : NGet X H a (.ref b) (valN (neL l) (keyD (Dat.py x))) := by
  subst hP hw
  exact ⟨neL l, b, Dat.py x, h, k.n hl, rfl, Dat.dp hx, Kd.k x, Nat.le_trans (Dat.depth x) hl, rfl⟩
theorem NPut.d {X : Cx} {P : Program} {w : World} {H : Hp} {a b : Addr} {l : DL α} {x : α} {v : V} (h : H a = some (DictD P w a l)) (k : KeysD H l) (hx : Is H (.ref b) x) (z : l.length < sizeLine) (hP : X.prog = P := by rfl) (hw : X.w = w := by rfl) (hl : Dat.dep α ≤ 8 := by decide) : NPut X H a (.ref b) v (upd H a (DictD P w a (putD l b x v))) := by
  subst hP hw
  exact ⟨neL l, b, Dat.py x, h, k.n hl, rfl, Dat.dp hx, Kd.k x, Nat.le_trans (Dat.depth x) hl, by unfold neL; rw [List.length_map]; exact z, by rw [putN_neL]; rfl⟩
theorem hasD_put (l : DL α) (b : Addr) (x y : α) (v : V) : hasD (putD l b x v) y = (decide (x = y) || hasD l y) := by
  unfold putD
  by_cases h : hasD l x = true
  · rw [if_pos h]
    have e : hasD (l.map fun t => if t.2.1 = x then (t.1, t.2.1, v) else t) y = hasD l y := by
      unfold hasD
      rw [List.any_map]
      congr 1
      funext t
      show decide ((if t.2.1 = x then (t.1, t.2.1, v) else t).2.1 = y) = _
      split <;> rfl
    rw [e]
    by_cases c : x = y
    · subst c; rw [h, Bool.or_true]
    · rw [decide_eq_false c, Bool.false_or]
  · rw [if_neg h]
    unfold hasD
    rw [List.any_append, List.any_cons, List.any_nil, Bool.or_false, Bool.or_comm]
theorem KeysD.put {H : Hp} {l : DL α} {b : Addr} {x : α} {v : V} (h : KeysD H l) (hx : Is H (.ref b) x) : KeysD H (putD l b x v) := fun t m => by
  unfold putD at m
  by_cases c : hasD l x = true
  · rw [if_pos c] at m
    obtain ⟨t0, m0, rfl⟩ := List.mem_map.mp m
    have z := h t0 m0
    show Is H (.ref (if t0.2.1 = x then (t0.1, t0.2.1, v) else t0).1) (if t0.2.1 = x then (t0.1, t0.2.1, v) else t0).2.1
    split <;> exact z
  · rw [if_neg c] at m
    rcases List.mem_append.mp m with m | m
    · exact h t m
    · rw [List.mem_singleton.mp m]; exact hx
theorem putD_len (l : DL α) (b : Addr) (x : α) (v : V) : (putD l b x v).length ≤ l.length + 1 := by
  unfold putD
  split
  · rw [List.length_map]; omega
  · rw [List.length_append]; exact Nat.le_refl _
end
theorem units9 {k : Nat} {A : Around} (r : Room k A) : A.units + 9 < cLine := by have := r.un; omega
end
/-! ### exceptions kept in a name beyond their suite -/
section
open PySem.Spec PyProof.Rows
/-- an exception that was caught: its class, its dict -/
def Kp (a : Addr) (cls : Value) (d : Option Addr) : HO := .ext fun h => ∃ oe : Obj, h.get? a = some oe ∧ Zc cls d oe ∧ ∃ vs, oe.data = .fields vs
section
variable {X : Cx} {pins : List (Addr × Obj)} {σ : L2.St} {H : Hp} {s sI : Shared} {a : Addr} {oe : Obj} {cls : Value} {d : Option Addr} {B : Heap}
/-- what is in hand may be tracked -/
theorem kp_track (I : Inv X pins σ H s) (he : s.heap.get? a = some oe) (hz : Zc cls d oe) (hf : ∃ vs, oe.data = .fields vs) (na : H a = none) (nL : a ≠ X.env.locals) (n0 : X.s_0.heap.get? a = none ∨ a ∈ X.ex) (np : ∀ p ∈ X.pn ++ pins, p.1 ≠ a) :
    Inv X pins σ (upd H a (Kp a cls d)) s where
  ok := I.ok
  os := I.os
  bare := I.bare
  base :=
    { keep := I.base.keep
      slot := I.base.slot
      free := fun b o e n x => by
        have nb : b ≠ a := by
          rintro rfl
          rcases n0 with z | z
          · rw [z] at e; cases e
          · exact x z
        rw [upd_ne nb]; exact I.base.free b o e n x
      there := I.base.there
      tups := fun b xs q => by have z := I.base.tups b xs q; rw [upd_ne (ne_of_none z na)]; exact z
      frzs := fun b o u q => by have z := I.base.frzs b o u q; rw [upd_ne (ne_of_none z na)]; exact z
      tbls := fun b ps q => by
        obtain ⟨m, z⟩ := I.base.tbls b ps q
        exact ⟨m, by rw [upd_ne (ne_of_none z na)]; exact z⟩ }
  loc := I.loc
  cell := I.cell
  free := by rw [upd_ne (Ne.symm nL)]; exact I.free
  freeC := fun x c q => by
    have nc : c ≠ a := by
      rintro rfl
      obtain ⟨v, o, ho, hd⟩ := I.cell x _ q
      obtain ⟨vs, hv⟩ := hf
      rw [he] at ho; cases ho
      rw [hv] at hd; cases hd
    rw [upd_ne nc]; exact I.freeC x c q
  pin := fun p hp => by
    obtain ⟨z1, z2, z3⟩ := I.pin p hp
    exact ⟨z1, by rw [upd_ne (np p hp)]; exact z2, z3⟩
  hok := fun b u q => by
    by_cases hb : b = a
    · subst hb
      rw [upd_same] at q; cases q
      exact ⟨⟨oe, he, hz, hf⟩, ⟨oe, he⟩, fun _ _ ⟨o, z, r⟩ k => ⟨o, k o z, r⟩⟩
    · rw [upd_ne hb] at q
      exact (I.hok b u q).stay (fun _ _ _ z => z) (fun c z => by rw [upd_ne (ne_of_none z na)]; exact z) fun c xs z => by rw [upd_ne (ne_of_none z na)]; exact z
  len := I.len
/-- what came into being on the way stands apart from all that was there -/
theorem kp_new (J : Inv X pins σ H sI) (nb : ∀ b o, sI.heap.get? b = some o → b ∉ frs X.stack → B.get? b = some o) (hB : B.get? a = none) (nf : a ∉ frs X.stack) :
    (X.s_0.heap.get? a = none ∨ a ∈ X.ex) ∧ ∀ p ∈ X.pn ++ pins, p.1 ≠ a := by
  have gone : ∀ o, ¬ sI.heap.get? a = some o := fun o e => by
    have z := nb a o e nf
    rw [hB] at z; cases z
  refine ⟨?_, fun p hp z => ?_⟩
  · by_cases hx : a ∈ X.ex
    · exact .inr hx
    · cases e : X.s_0.heap.get? a with
      | none => exact .inl rfl
      | some o =>
        obtain ⟨o', e'⟩ := J.base.there a o e hx
        exact absurd e' (gone o')
  · have e := (J.pin p hp).1
    rw [z] at e
    exact gone _ e
end
/-- what 'except x as n' wishes of an exception that it always catches: behind the suite it is tracked -/
def wKp (K : PySem.W.Frag) (c : Value) (i : Nat) (ts : Addr → Value → Option Addr → TS) (D : Ends) : WX := fun cls d σ H =>
  PySem.W.exmOne K cls c = some true ∧ ∀ a, H a = none → ts a cls d { nx := fun σ' H' => D.nx (σ'.set i none) (upd H' a (Kp a cls d)), rt := D.rt, bk := fun σ' H' => D.bk (σ'.set i none) H', ct := fun σ' H' => D.ct (σ'.set i none) H' } (σ.set i (some (.ref a))) H
section
variable {X : Cx} {x n : Str} {c : Value} {i : Nat} {body suite : List Stmt} {b0 : Stmt} {np pos pos' : Pos} {tb : WX → TS} {ts : Addr → Value → Option Addr → TS}
theorem ps_try_kp (hst : X.stack = X.env :: X.outer) (hfr : X.env.frame = some X.env.locals) (hN : X.N.Nodup) (hi : X.N[i]? = some n) (hl : X.env.kindOf n = some .local) (hc : Names X x c)
    (hb : ∀ (W : WX) (pn : List (Addr × Obj)) (xe : Value → Shared → Prop), Takes (X.tr pn xe) W → PassesOwn (model X.prog X.w) X.A X.env xe → PSs (X.tr pn xe) body (tb W))
    (hsu : ∀ (a : Addr) (oe : Obj) (cls : Value) (d : Option Addr) (pn : List (Addr × Obj)), Zc cls d oe → (∃ vs, oe.data = .fields vs) → PSs (X.suite a ((a, oe) :: pn)) (b0 :: suite) (ts a cls d)) :
    PS X (.Try body [.ExceptHandler (some (.Name x np)) (some n) (b0 :: suite) pos'] [] [] pos) (fun D σ H => tb (wKp X.K c i ts D) D σ H) := by
  refine ⟨fun pins s σ H D I h => ?_⟩
  have ok := I.ok
  have hA : X.A.frames = some (X.env :: X.outer) := ok.frames.trans (congrArg some hst)
  refine wpAny_Try_except (wpAny_mono
    ((hb (wKp X.K c i ts D) (X.pn ++ pins) _ (fun u s' q => ?_) PassesOwn.looking).run [] s σ H D (I.toTry _) h)
    (fun f s1 hsp => ?_) (fun _ _ q => q))
  · obtain ⟨a, B, sI, pi, σ1, H1, cls, d, rfl, J0, nb, up, sky, na, os, ag, hb1, hyes⟩ := q
    have J := J0.ofTry ok
    rw [show (X.tr (X.pn ++ pins) _).stack = X.env :: X.outer from hst] at sky
    show wpAny (model X.prog X.w) X.A (noteFrame (.ref a) X.env) _ _ _
    refine Sky.land Zc.steady hA hfr sky fun hp fl up1 => ?_
    have J1 : Inv X pins σ1 H1 { s' with heap := hp } := J.landed nb fl.1 (up.trans up1) os ag
    obtain ⟨o1, vs1, e1, z1, d1⟩ := fl.there
    have off : a ∉ frs (X.env :: X.outer) := fun hm => by
      obtain ⟨_, o', e', nof⟩ := fl.2.2.1.mem hm
      rw [e1] at e'; cases e'
      exact nof _ d1
    have nL : a ≠ X.env.locals := by
      rintro rfl
      exact off (List.mem_filterMap.mpr ⟨X.env, List.mem_cons_self, hfr⟩)
    have nF : a ∉ X.fs := fun hm => by
      obtain ⟨v, hv, q⟩ := List.mem_filterMap.mp hm
      exact off (List.mem_filterMap.mpr ⟨v, List.mem_cons_of_mem _ hv, q⟩)
    obtain ⟨n0, np0⟩ := kp_new J nb fl.2.1 (by rw [hst]; exact off)
    have K1 := J1.suite e1 d1 na nL nF
    refine wpAny_handleBy_cons (codeAny_handlers_test ?_) (fun z => nomatch z)
    have lt : PySem.W.Looks (model X.prog X.w) hp (typeOf (.ref a)) cls := fun A Q E s k q => wpAny_typeOf_ref (k _ _ e1) (by rw [z1.1]; exact q)
    have lm := PySem.W.exm_one (M := model X.prog X.w) J1.kIn lt hb1
    have nm : ∀ {Q : Value → Shared → Prop} {E : Value → Shared → Prop}, Q c { s' with heap := hp } → wpAny (model X.prog X.w) (X.A.mark (some (.ref a))) (eval (.Name x np) X.env) Q E { s' with heap := hp } := fun q => by
      obtain ⟨g1, g2, g3 | ⟨g3, g4, g5⟩⟩ := hc
      · exact ld_glob (X := X.suite a ((a, o1) :: (X.pn ++ pins))) K1 g1 g3 q g2
      · exact ld_blt (X := X.suite a ((a, o1) :: (X.pn ++ pins))) K1 g1 g3 g4 q g5 g2
    refine nm (lm.here (codeAny_handlers_suite_as (HandSPX.lands_againZ fl fun hq fm up2 => ?_)))
    have J2 : Inv X pins σ1 H1 { s' with heap := hq } := J.landed nb fm.1 ((up.trans up1).trans up2) os ag
    obtain ⟨o2, vs2, e2, z2, d2⟩ := fm.there
    have K2 := J2.suite e2 d2 na nL nF
    refine store_ok (X := X.suite a ((a, o2) :: (X.pn ++ pins))) (v := .ref a) K2 hN hi (.inl hl) rfl (fun s5 K5 => ?_) (.inr hl)
    refine wpAny_mono ((hsu a o2 cls d (X.pn ++ pins) z2 ⟨_, d2⟩).run [] s5 _ H1 _ K5 (hyes a na)) (fun f s6 hsp => ?_) (fun _ _ z => False.elim z)
    cases f with
    | next =>
      obtain ⟨σ6, H6, K6, q6⟩ := hsp
      obtain ⟨e6, n6, _⟩ := K6.pin (a, o2) (List.mem_append_left _ List.mem_cons_self)
      exact gone_ok (kp_track (K6.unsuite ok) e6 z2 ⟨_, d2⟩ n6 nL n0 np0) hN hi hl fun s7 J7 => ⟨_, _, J7, q6⟩
    | brk =>
      obtain ⟨σ6, H6, K6, q6⟩ := hsp
      exact gone_ok (K6.unsuite ok) hN hi hl fun s7 J7 => ⟨_, _, J7, q6⟩
    | cont =>
      obtain ⟨σ6, H6, K6, q6⟩ := hsp
      exact gone_ok (K6.unsuite ok) hN hi hl fun s7 J7 => ⟨_, _, J7, q6⟩
    | ret u =>
      obtain ⟨v6, σ6, H6, K6, r6, q6⟩ := hsp
      exact gone_ok (K6.unsuite ok) hN hi hl fun s7 J7 => ⟨_, _, _, J7, r6, q6⟩
  · cases f with
    | next =>
      obtain ⟨σ6, H6, K6, q6⟩ := hsp
      exact wpAny_execs_nil ⟨σ6, H6, K6.ofTry ok, q6⟩
    | brk =>
      obtain ⟨σ6, H6, K6, q6⟩ := hsp
      exact ⟨σ6, H6, K6.ofTry ok, q6⟩
    | cont =>
      obtain ⟨σ6, H6, K6, q6⟩ := hsp
      exact ⟨σ6, H6, K6.ofTry ok, q6⟩
    | ret u =>
      obtain ⟨v6, σ6, H6, K6, r6, q6⟩ := hsp
      exact ⟨v6, σ6, H6, K6.ofTry ok, r6, q6⟩
end
/-- isinstance(e, c), e a kept exception of the class at D without a dict of its own -/
@[irreducible] def rIsK (K : PySem.W.Frag) : List V → Hp → VK → Prop := fun xs H Q => ∃ (a D : Addr) (c : V) (cv : Value) (b : Bool), xs = [.ref a, c] ∧ H a = some (Kp a (.ref D) none) ∧ ExcC K D ∧ (∀ u, RelV c u → u = cv) ∧ PySem.W.kitOne K (.ref D) cv = some b ∧ Q (.bl b) H
theorem rIsK.mk {K : PySem.W.Frag} {H : Hp} {Q : VK} {a D : Addr} {c : V} {cv : Value} {b : Bool} (h : H a = some (Kp a (.ref D) none)) (hC : ExcC K D) (hc : ∀ u, RelV c u → u = cv) (e : PySem.W.kitOne K (.ref D) cv = some b) (q : Q (.bl b) H) : rIsK K [.ref a, c] H Q := by
  unfold rIsK; exact ⟨a, D, c, cv, b, rfl, h, hC, hc, e, q⟩
theorem kp_inst {X : Cx} {pins : List (Addr × Obj)} {σ : L2.St} {H : Hp} {s : Shared} {a D : Addr} (I : Inv X pins σ H s) (h : H a = some (Kp a (.ref D) none)) : ∃ oe, PySem.W.InstAt s.heap a oe D none := by
  obtain ⟨⟨oe, he, ⟨z1, z2⟩, vs, hv⟩, _⟩ := I.hok a _ h
  obtain ⟨oc, od, oda, osl⟩ := oe
  dsimp only at z1 z2 hv
  subst z1 z2 hv
  exact ⟨_, he, rfl, rfl, trivial⟩
theorem call_isK {X : Cx} : CallR X (.builtin "isinstance") (rIsK X.K) := by
  intro pins s σ H xs us Q I r h
  unfold rIsK at h
  obtain ⟨a, D, c, cv, b, rfl, hH, C, hcv, e, q⟩ := h
  cases r with
  | cons rx rr =>
    cases rr with
    | cons rt rr =>
      cases rr
      cases rx
      obtain rfl := hcv _ rt
      obtain ⟨oe, J⟩ := kp_inst I hH
      exact PySem.W.kia_one (PySem.W.handS_kitx_exc C.hg C.hk C.hs C.hd C.ha C.hn C.ht C.hm) I.kIn J e (fun z => nomatch z) fun tk => ⟨.bl b, H, I.kept (t' := tk) fun _ _ z => z, rfl, q⟩
/-- isinstance(None, ..) and of other things: the list layer's rule, or a kept exception -/
@[irreducible] def rIsB (K : PySem.W.Frag) : List V → Hp → VK → Prop := fun xs H Q => rIsK K xs H Q ∨ rIsi K xs H Q
theorem call_isB {X : Cx} : CallR X (.builtin "isinstance") (rIsB X.K) := by
  intro pins s σ H xs us Q I r h
  unfold rIsB at h
  rcases h with h | h
  · exact call_isK pins s σ H xs us Q I r h
  · exact call_isi pins s σ H xs us Q I r h
theorem rIsB.k {K : PySem.W.Frag} {H : Hp} {Q : VK} {xs : List V} (h : rIsK K xs H Q) : rIsB K xs H Q := by unfold rIsB; exact .inl h
theorem rIsB.i {K : PySem.W.Frag} {H : Hp} {Q : VK} {xs : List V} (h : rIsi K xs H Q) : rIsB K xs H Q := by unfold rIsB; exact .inr h
/-- whether an instance of t is one of C; of a built-in class -/
theorem kit_own {K : PySem.W.Frag} {t : Value} {C : Addr} {b : Bool} (i : PySem.W.isClsIn K C = true) (ty : PySem.W.typeIn K (.ref C) = some (.type "type")) (s : PySem.W.subIn K t (.ref C) = some b) (se : PySem.W.subIn K (.ref C) (.ref C) = some true) : PySem.W.kitOne K t (.ref C) = some b := by
  unfold PySem.W.kitOne
  by_cases e : (t == Value.ref C) = true
  · rw [if_pos e]
    have e' : t = .ref C := eq_of_beq e
    rw [e', se] at s
    exact s
  · rw [if_neg e]
    have i' : (PySem.W.clsIn K C).isSome = true := i
    show (if ((PySem.W.clsIn K C).isSome && PySem.W.typeIn K (.ref C) == some (.type "type")) = true then PySem.W.subIn K t (.ref C) else none) = some b
    rw [if_pos (by rw [i', ty]; rfl)]
    exact s
theorem kit_blt {K : PySem.W.Frag} {D : Addr} {T : String} {b : Bool} (s : PySem.W.subIn K (.ref D) (.type T) = some b) (m : PySem.W.kitMeta T = true := by decide +kernel) : PySem.W.kitOne K (.ref D) (.type T) = some b := by
  unfold PySem.W.kitOne
  rw [if_neg (by
    intro e
    have e' : Value.ref D = .type T := eq_of_beq e
    cases e')]
  show (if PySem.W.kitMeta T = true then PySem.W.subIn K (.ref D) (.type T) else none) = some b
  rw [if_pos m]
  exact s
/-- isinstance(e, (C1, C2, ..)) -/
@[irreducible] def rIsKT (K : PySem.W.Frag) : List V → Hp → VK → Prop := fun xs H Q => ∃ (a D tp : Addr) (cs : List V) (us : List Value) (b : Bool), xs = [.ref a, .ref tp] ∧ H a = some (Kp a (.ref D) none) ∧ ExcC K D ∧ H tp = some (.tup cs) ∧ Paired ClsV cs us ∧ PySem.W.kitAny K (.ref D) us = some b ∧ Q (.bl b) H
theorem rIsKT.mk {K : PySem.W.Frag} {H : Hp} {Q : VK} {a D tp : Addr} {cs : List V} {us : List Value} {b : Bool} (h : H a = some (Kp a (.ref D) none)) (hC : ExcC K D) (ht : H tp = some (.tup cs)) (hc : Paired ClsV cs us) (e : PySem.W.kitAny K (.ref D) us = some b) (q : Q (.bl b) H) : rIsKT K [.ref a, .ref tp] H Q := by
  unfold rIsKT; exact ⟨a, D, tp, cs, us, b, rfl, h, hC, ht, hc, e, q⟩
theorem call_isKT {X : Cx} : CallR X (.builtin "isinstance") (rIsKT X.K) := by
  intro pins s σ H xs us0 Q I r h
  unfold rIsKT at h
  obtain ⟨a, D, tp, cs, us, b, rfl, hH, C, hT, k, e, q⟩ := h
  obtain ⟨u1, u2, rfl, r1, r2⟩ := vals2 r
  cases r1
  cases r2
  obtain ⟨oe, J⟩ := kp_inst I hH
  obtain ⟨_, its, rv, o, h1, h2, n, h3⟩ := (show ObjOk X.prog X.w H s.heap tp (.tup cs) from I.hok tp _ hT)
  have e3 := ClsV.all k rv
  subst e3
  obtain ⟨oc, od, dt, sl⟩ := o
  simp only at h2 h3
  subst h2 h3
  exact PySem.W.kia_tup (PySem.W.handS_kitx_exc C.hg C.hk C.hs C.hd C.ha C.hn C.ht C.hm) I.kIn J h1 e (fun z => nomatch z) fun tk => ⟨.bl b, H, I.tok tk, rfl, q⟩
@[irreducible] def rIsBT (K : PySem.W.Frag) : List V → Hp → VK → Prop := fun xs H Q => rIsKT K xs H Q ∨ rIsiT K xs H Q
theorem call_isBT {X : Cx} : CallR X (.builtin "isinstance") (rIsBT X.K) := by
  intro pins s σ H xs us Q I r h
  unfold rIsBT at h
  rcases h with h | h
  · exact call_isKT pins s σ H xs us Q I r h
  · exact call_isiT pins s σ H xs us Q I r h
theorem rIsBT.k {K : PySem.W.Frag} {H : Hp} {Q : VK} {xs : List V} (h : rIsKT K xs H Q) : rIsBT K xs H Q := by unfold rIsBT; exact .inl h
theorem rIsBT.i {K : PySem.W.Frag} {H : Hp} {Q : VK} {xs : List V} (h : rIsiT K xs H Q) : rIsBT K xs H Q := by unfold rIsBT; exact .inr h
/-- a def that lets nothing out serves where something may be let out; two promises of one def -/
theorem FnOk.lift {P : Program} {w : World} {K : PySem.W.Frag} {mg : Str → Option Value} {base : Heap} {k : Nat} {f : Addr} {fd : FuncData} {ps : List Str} {sp : Sp} (F : FnOk P w K mg base CX0 k f fd ps sp) : FnOk P w K mg base (L2.CX P w) k f fd ps sp :=
  ⟨F.len, fun A outer s H args us vs Q E hr he hb hv hs => codeAny_mono (F.run A outer s H args us vs Q E hr he hb hv hs) fun r s' hq => by
    cases r with
    | error e => exact False.elim hq
    | ok fl =>
      cases fl with
      | ret u => exact hq
      | _ => exact False.elim hq⟩
theorem FnOk.or {P : Program} {w : World} {K : PySem.W.Frag} {mg : Str → Option Value} {base : Heap} {CX : CXT} {k : Nat} {f : Addr} {fd : FuncData} {ps : List Str} {sp sp' : Sp} (F : FnOk P w K mg base CX k f fd ps sp) (G : FnOk P w K mg base CX k f fd ps sp') :
    FnOk P w K mg base CX k f fd ps fun vs H Q E => sp vs H Q E ∨ sp' vs H Q E :=
  ⟨fun vs H Q E h => h.elim (F.len vs H Q E) (G.len vs H Q E), fun A outer s H args us vs Q E hr he hb hv hs => hs.elim (F.run A outer s H args us vs Q E hr he hb hv) (G.run A outer s H args us vs Q E hr he hb hv)⟩
end
def top (i : Nat) : Stmt := PySem.Challenge.pw_endnever_k77_no_machines_walked.main.body.getD i (.Pass ⟨0, 0, 0, 0⟩)
abbrev s_L_at : Stmt := top 29
abbrev N_L_at : List Str := ["_law_script", "_law_k"]
theorem sc_L_at : FnScope ["_law_script", "_law_k"] ["_law_script", "_law_k"] (defScope s_L_at) := ⟨rfl, rfl, rfl, by decide +kernel, rfl, by decide +kernel, by decide +kernel⟩
abbrev s_L_purse : Stmt := top 31
abbrev N_L_purse : List Str := ["_law_script", "_law_at_here", "_law_cell"]
theorem sc_L_purse : FnScope ["_law_script", "_law_at_here", "_law_cell"] ["_law_script", "_law_at_here"] (defScope s_L_purse) := ⟨rfl, rfl, rfl, by decide +kernel, rfl, by decide +kernel, by decide +kernel⟩
abbrev s_L_mixed : Stmt := top 30
abbrev N_L_mixed : List Str := ["_law_cell", "_law_k", "_law_number"]
theorem sc_L_mixed : FnScope ["_law_cell", "_law_k", "_law_number"] ["_law_cell", "_law_k"] (defScope s_L_mixed) := ⟨rfl, rfl, rfl, by decide +kernel, rfl, by decide +kernel, by decide +kernel⟩
abbrev s_L_draw : Stmt := top 32
abbrev N_L_draw : List Str := ["_law_purse_here", "_law_out_of", "_law_drawn", "_law_number"]
theorem sc_L_draw : FnScope ["_law_purse_here", "_law_out_of", "_law_drawn", "_law_number"] ["_law_purse_here", "_law_out_of"] (defScope s_L_draw) := ⟨rfl, rfl, rfl, by decide +kernel, rfl, by decide +kernel, by decide +kernel⟩
abbrev s_L_entry : Stmt := top 33
abbrev N_L_entry : List Str := ["_law_purse_here", "_law_rows", "_law_signs", "_law_row", "_law_few", "_law_put", "_law_way", "_law_to"]
theorem sc_L_entry : FnScope ["_law_purse_here", "_law_rows", "_law_signs", "_law_row", "_law_few", "_law_put", "_law_way", "_law_to"] ["_law_purse_here", "_law_rows", "_law_signs", "_law_row", "_law_few"] (defScope s_L_entry) := ⟨rfl, rfl, rfl, by decide +kernel, rfl, by decide +kernel, by decide +kernel⟩
abbrev s_L_machine : Stmt := top 34
abbrev N_L_machine : List Str := ["_law_purse_here", "_law_rows", "_law_signs", "_law_few", "_law_sign", "_law_row"]
theorem sc_L_machine : FnScope ["_law_purse_here", "_law_rows", "_law_signs", "_law_few", "_law_sign", "_law_row"] ["_law_purse_here"] (defScope s_L_machine) := ⟨rfl, rfl, rfl, by decide +kernel, rfl, by decide +kernel, by decide +kernel⟩
abbrev s_L_kept : Stmt := top 35
abbrev N_L_kept : List Str := ["_law_machine_here", "_law_row"]
theorem sc_L_kept : FnScope ["_law_machine_here", "_law_row"] ["_law_machine_here"] (defScope s_L_kept) := ⟨rfl, rfl, rfl, by decide +kernel, rfl, by decide +kernel, by decide +kernel⟩
abbrev s_L_bent : Stmt := top 36
abbrev N_L_bent : List Str := ["_law_machine_here", "_law_way", "_law_number", "_law_rows", "_law_row", "_law_at_here", "_law_spot", "_law_odd"]
theorem sc_L_bent : FnScope ["_law_machine_here", "_law_way", "_law_number", "_law_rows", "_law_row", "_law_at_here", "_law_spot", "_law_odd"] ["_law_machine_here", "_law_way", "_law_number"] (defScope s_L_bent) := ⟨rfl, rfl, rfl, by decide +kernel, rfl, by decide +kernel, by decide +kernel⟩
abbrev s_L_class : Stmt := top 37
abbrev N_L_class : List Str := ["_law_caught_here", "_law_some"]
theorem sc_L_class : FnScope ["_law_caught_here", "_law_some"] ["_law_caught_here"] (defScope s_L_class) := ⟨rfl, rfl, rfl, by decide +kernel, rfl, by decide +kernel, by decide +kernel⟩
abbrev s_is_entry : Stmt := top 15
abbrev N_is_entry : List Str := ["entry", "rows", "signs"]
theorem sc_is_entry : FnScope ["entry", "rows", "signs"] ["entry", "rows", "signs"] (defScope s_is_entry) := ⟨rfl, rfl, rfl, by decide +kernel, rfl, by decide +kernel, by decide +kernel⟩
abbrev s_is_machine : Stmt := top 16
abbrev N_is_machine : List Str := ["machine", "rows", "signs", "row", "entry"]
theorem sc_is_machine : FnScope ["machine", "rows", "signs", "row", "entry"] ["machine"] (defScope s_is_machine) := ⟨rfl, rfl, rfl, by decide +kernel, rfl, by decide +kernel, by decide +kernel⟩
abbrev s_must_machine : Stmt := top 17
abbrev N_must_machine : List Str := ["machine"]
theorem sc_must_machine : FnScope ["machine"] ["machine"] (defScope s_must_machine) := ⟨rfl, rfl, rfl, by decide +kernel, rfl, by decide +kernel, by decide +kernel⟩
abbrev s_most_setups : Stmt := top 19
abbrev N_most_setups : List Str := ["machine", "block", "found", "sign"]
theorem sc_most_setups : FnScope ["machine", "block", "found", "sign"] ["machine", "block"] (defScope s_most_setups) := ⟨rfl, rfl, rfl, by decide +kernel, rfl, by decide +kernel, by decide +kernel⟩
abbrev s_through : Stmt := top 20
abbrev N_through : List Str := ["machine", "block", "row", "side", "signs", "place", "steps", "entry"]
theorem sc_through : FnScope ["machine", "block", "row", "side", "signs", "place", "steps", "entry"] ["machine", "block", "row", "side"] (defScope s_through) := ⟨rfl, rfl, rfl, by decide +kernel, rfl, by decide +kernel, by decide +kernel⟩
abbrev s_Walk_init : Stmt := inClass (top 21) 0
abbrev N_Walk_init : List Str := ["self", "long"]
theorem sc_Walk_init : FnScope ["self", "long"] ["self", "long"] (defScope s_Walk_init) := ⟨rfl, rfl, rfl, by decide +kernel, rfl, by decide +kernel, by decide +kernel⟩
abbrev s_Walk_out : Stmt := inClass (top 21) 3
abbrev N_Walk_out : List Str := ["self", "found", "word", "signs", "row", "way", "steps"]
theorem sc_Walk_out : FnScope ["self", "found", "word", "signs", "row", "way", "steps"] ["self", "found"] (defScope s_Walk_out) := ⟨rfl, rfl, rfl, by decide +kernel, rfl, by decide +kernel, by decide +kernel⟩
abbrev s_Walk_place : Stmt := inClass (top 21) 2
abbrev N_Walk_place : List Str := ["self"]
theorem sc_Walk_place : FnScope ["self"] ["self"] (defScope s_Walk_place) := ⟨rfl, rfl, rfl, by decide +kernel, rfl, by decide +kernel, by decide +kernel⟩
abbrev s_Walk_strip : Stmt := inClass (top 21) 4
abbrev N_Walk_strip : List Str := ["self", "found", "at", "k", "sign"]
theorem sc_Walk_strip : FnScope ["self", "found", "at", "k", "sign"] ["self"] (defScope s_Walk_strip) := ⟨rfl, rfl, rfl, by decide +kernel, rfl, by decide +kernel, by decide +kernel⟩
abbrev s_Walk_block : Stmt := inClass (top 21) 1
abbrev N_Walk_block : List Str := ["self"]
theorem sc_Walk_block : FnScope ["self"] ["self"] (defScope s_Walk_block) := ⟨rfl, rfl, rfl, by decide +kernel, rfl, by decide +kernel, by decide +kernel⟩
abbrev s_by_blocks : Stmt := top 22
abbrev N_by_blocks : List Str := ["machine", "k", "many", "walk", "turn", "found", "word", "signs", "row", "place", "steps"]
theorem sc_by_blocks : FnScope ["machine", "k", "many", "walk", "turn", "found", "word", "signs", "row", "place", "steps"] ["machine", "k", "many"] (defScope s_by_blocks) := ⟨rfl, rfl, rfl, by decide +kernel, rfl, by decide +kernel, by decide +kernel⟩
abbrev s_Strip_init : Stmt := inClass (top 26) 0
abbrev N_Strip_init : List Str := ["self", "row", "runs", "left", "sign", "right"]
theorem sc_Strip_init : FnScope ["self", "row", "runs", "left", "sign", "right"] ["self", "row", "runs"] (defScope s_Strip_init) := ⟨rfl, rfl, rfl, by decide +kernel, rfl, by decide +kernel, by decide +kernel⟩
abbrev s_Strip_told : Stmt := inClass (top 26) 1
abbrev N_Strip_told : List Str := ["self"]
theorem sc_Strip_told : FnScope ["self"] ["self"] (defScope s_Strip_told) := ⟨rfl, rfl, rfl, by decide +kernel, rfl, by decide +kernel, by decide +kernel⟩
abbrev s_put_run : Stmt := top 24
abbrev N_put_run : List Str := ["runs", "sign", "many"]
theorem sc_put_run : FnScope ["runs", "sign", "many"] ["runs", "sign", "many"] (defScope s_put_run) := ⟨rfl, rfl, rfl, by decide +kernel, rfl, by decide +kernel, by decide +kernel⟩
abbrev s_taken : Stmt := top 25
abbrev N_taken : List Str := ["runs", "sign", "many"]
theorem sc_taken : FnScope ["runs", "sign", "many"] ["runs"] (defScope s_taken) := ⟨rfl, rfl, rfl, by decide +kernel, rfl, by decide +kernel, by decide +kernel⟩
abbrev s_Strip_stride : Stmt := inClass (top 26) 2
abbrev N_Strip_stride : List Str := ["self", "put", "way", "ahead", "many"]
theorem sc_Strip_stride : FnScope ["self", "put", "way", "ahead", "many"] ["self", "put", "way"] (defScope s_Strip_stride) := ⟨rfl, rfl, rfl, by decide +kernel, rfl, by decide +kernel, by decide +kernel⟩
abbrev s_Strip_step : Stmt := inClass (top 26) 3
abbrev N_Strip_step : List Str := ["self", "put", "way", "row"]
theorem sc_Strip_step : FnScope ["self", "put", "way", "row"] ["self", "put", "way", "row"] (defScope s_Strip_step) := ⟨rfl, rfl, rfl, by decide +kernel, rfl, by decide +kernel, by decide +kernel⟩
abbrev s_by_strides : Stmt := top 27
abbrev N_by_strides : List Str := ["machine", "row", "runs", "many", "strip", "turn", "entry", "put", "way", "goes"]
theorem sc_by_strides : FnScope ["machine", "row", "runs", "many", "strip", "turn", "entry", "put", "way", "goes"] ["machine", "row", "runs", "many"] (defScope s_by_strides) := ⟨rfl, rfl, rfl, by decide +kernel, rfl, by decide +kernel, by decide +kernel⟩
abbrev s_L_caught : Stmt := top 38
abbrev N_L_caught : List Str := ["_law_turn", "_law_machine_here", "_law_number", "_law_caught_here", "e"]
theorem sc_L_caught : FnScope ["_law_turn", "_law_machine_here", "_law_number", "_law_caught_here", "e"] ["_law_turn", "_law_machine_here", "_law_number"] (defScope s_L_caught) := ⟨rfl, rfl, rfl, by decide +kernel, rfl, by decide +kernel, by decide +kernel⟩
abbrev s_law : Stmt := top 39
abbrev N_law : List Str := ["_law_script", "_law_cell", "_law_purse_here", "_law_machine_here", "_law_handed", "_law_bent_here", "_law_other", "_law_number", "_law_turn"]
theorem sc_law : FnScope ["_law_script", "_law_cell", "_law_purse_here", "_law_machine_here", "_law_handed", "_law_bent_here", "_law_other", "_law_number", "_law_turn"] ["_law_script"] (defScope s_law) := ⟨rfl, rfl, rfl, by decide +kernel, rfl, by decide +kernel, by decide +kernel⟩
/-- what the top has written: where each def stands, what the names hold -/
structure Tx (K : PySem.W.Frag) (mg : Str → Option Value) where
  a_L_at : Addr
  fd_L_at : FuncData
  F_L_at : Fun K "_law_at" "_law_at" s_L_at a_L_at fd_L_at
  b_L_at : Binds K fd_L_at ["_law_script", "_law_k"] []
  m_L_at : mg "_law_at" = some (.ref a_L_at)
  a_L_purse : Addr
  fd_L_purse : FuncData
  F_L_purse : Fun K "_law_purse" "_law_purse" s_L_purse a_L_purse fd_L_purse
  b_L_purse : Binds K fd_L_purse ["_law_script", "_law_at_here"] []
  m_L_purse : mg "_law_purse" = some (.ref a_L_purse)
  a_L_mixed : Addr
  fd_L_mixed : FuncData
  F_L_mixed : Fun K "_law_mixed" "_law_mixed" s_L_mixed a_L_mixed fd_L_mixed
  b_L_mixed : Binds K fd_L_mixed ["_law_cell", "_law_k"] []
  m_L_mixed : mg "_law_mixed" = some (.ref a_L_mixed)
  a_L_draw : Addr
  fd_L_draw : FuncData
  F_L_draw : Fun K "_law_draw" "_law_draw" s_L_draw a_L_draw fd_L_draw
  b_L_draw : Binds K fd_L_draw ["_law_purse_here", "_law_out_of"] []
  m_L_draw : mg "_law_draw" = some (.ref a_L_draw)
  a_L_entry : Addr
  fd_L_entry : FuncData
  F_L_entry : Fun K "_law_entry" "_law_entry" s_L_entry a_L_entry fd_L_entry
  b_L_entry : Binds K fd_L_entry ["_law_purse_here", "_law_rows", "_law_signs", "_law_row", "_law_few"] []
  m_L_entry : mg "_law_entry" = some (.ref a_L_entry)
  a_L_machine : Addr
  fd_L_machine : FuncData
  F_L_machine : Fun K "_law_machine" "_law_machine" s_L_machine a_L_machine fd_L_machine
  b_L_machine : Binds K fd_L_machine ["_law_purse_here"] []
  m_L_machine : mg "_law_machine" = some (.ref a_L_machine)
  a_L_kept : Addr
  fd_L_kept : FuncData
  F_L_kept : Fun K "_law_kept" "_law_kept" s_L_kept a_L_kept fd_L_kept
  b_L_kept : Binds K fd_L_kept ["_law_machine_here"] []
  m_L_kept : mg "_law_kept" = some (.ref a_L_kept)
  a_L_bent : Addr
  fd_L_bent : FuncData
  F_L_bent : Fun K "_law_bent" "_law_bent" s_L_bent a_L_bent fd_L_bent
  b_L_bent : Binds K fd_L_bent ["_law_machine_here", "_law_way", "_law_number"] []
  m_L_bent : mg "_law_bent" = some (.ref a_L_bent)
  a_L_class : Addr
  fd_L_class : FuncData
  F_L_class : Fun K "_law_class" "_law_class" s_L_class a_L_class fd_L_class
  b_L_class : Binds K fd_L_class ["_law_caught_here"] []
  m_L_class : mg "_law_class" = some (.ref a_L_class)
  a_is_entry : Addr
  fd_is_entry : FuncData
  F_is_entry : Fun K "is_entry" "is_entry" s_is_entry a_is_entry fd_is_entry
  b_is_entry : Binds K fd_is_entry ["entry", "rows", "signs"] []
  m_is_entry : mg "is_entry" = some (.ref a_is_entry)
  a_is_machine : Addr
  fd_is_machine : FuncData
  F_is_machine : Fun K "is_machine" "is_machine" s_is_machine a_is_machine fd_is_machine
  b_is_machine : Binds K fd_is_machine ["machine"] []
  m_is_machine : mg "is_machine" = some (.ref a_is_machine)
  a_must_machine : Addr
  fd_must_machine : FuncData
  F_must_machine : Fun K "must_machine" "must_machine" s_must_machine a_must_machine fd_must_machine
  b_must_machine : Binds K fd_must_machine ["machine"] []
  m_must_machine : mg "must_machine" = some (.ref a_must_machine)
  a_most_setups : Addr
  fd_most_setups : FuncData
  F_most_setups : Fun K "most_setups" "most_setups" s_most_setups a_most_setups fd_most_setups
  b_most_setups : Binds K fd_most_setups ["machine", "block"] []
  m_most_setups : mg "most_setups" = some (.ref a_most_setups)
  a_through : Addr
  fd_through : FuncData
  F_through : Fun K "through" "through" s_through a_through fd_through
  b_through : Binds K fd_through ["machine", "block", "row", "side"] []
  m_through : mg "through" = some (.ref a_through)
  a_Walk_init : Addr
  fd_Walk_init : FuncData
  F_Walk_init : Fun K "__init__" "Walk.__init__" s_Walk_init a_Walk_init fd_Walk_init
  b_Walk_init : Binds K fd_Walk_init ["self", "long"] []
  a_Walk_out : Addr
  fd_Walk_out : FuncData
  F_Walk_out : Fun K "out" "Walk.out" s_Walk_out a_Walk_out fd_Walk_out
  b_Walk_out : Binds K fd_Walk_out ["self", "found"] []
  a_Walk_place : Addr
  fd_Walk_place : FuncData
  F_Walk_place : Fun K "place" "Walk.place" s_Walk_place a_Walk_place fd_Walk_place
  b_Walk_place : Binds K fd_Walk_place ["self"] []
  a_Walk_strip : Addr
  fd_Walk_strip : FuncData
  F_Walk_strip : Fun K "strip" "Walk.strip" s_Walk_strip a_Walk_strip fd_Walk_strip
  b_Walk_strip : Binds K fd_Walk_strip ["self"] []
  a_Walk_block : Addr
  fd_Walk_block : FuncData
  F_Walk_block : Fun K "block" "Walk.block" s_Walk_block a_Walk_block fd_Walk_block
  b_Walk_block : Binds K fd_Walk_block ["self"] []
  a_by_blocks : Addr
  fd_by_blocks : FuncData
  F_by_blocks : Fun K "by_blocks" "by_blocks" s_by_blocks a_by_blocks fd_by_blocks
  b_by_blocks : Binds K fd_by_blocks ["machine", "k", "many"] []
  m_by_blocks : mg "by_blocks" = some (.ref a_by_blocks)
  a_Strip_init : Addr
  fd_Strip_init : FuncData
  F_Strip_init : Fun K "__init__" "Strip.__init__" s_Strip_init a_Strip_init fd_Strip_init
  b_Strip_init : Binds K fd_Strip_init ["self", "row", "runs"] []
  a_Strip_told : Addr
  fd_Strip_told : FuncData
  F_Strip_told : Fun K "told" "Strip.told" s_Strip_told a_Strip_told fd_Strip_told
  b_Strip_told : Binds K fd_Strip_told ["self"] []
  a_put_run : Addr
  fd_put_run : FuncData
  F_put_run : Fun K "put_run" "put_run" s_put_run a_put_run fd_put_run
  b_put_run : Binds K fd_put_run ["runs", "sign", "many"] []
  m_put_run : mg "put_run" = some (.ref a_put_run)
  a_taken : Addr
  fd_taken : FuncData
  F_taken : Fun K "taken" "taken" s_taken a_taken fd_taken
  b_taken : Binds K fd_taken ["runs"] []
  m_taken : mg "taken" = some (.ref a_taken)
  a_Strip_stride : Addr
  fd_Strip_stride : FuncData
  F_Strip_stride : Fun K "stride" "Strip.stride" s_Strip_stride a_Strip_stride fd_Strip_stride
  b_Strip_stride : Binds K fd_Strip_stride ["self", "put", "way"] []
  a_Strip_step : Addr
  fd_Strip_step : FuncData
  F_Strip_step : Fun K "step" "Strip.step" s_Strip_step a_Strip_step fd_Strip_step
  b_Strip_step : Binds K fd_Strip_step ["self", "put", "way", "row"] []
  a_by_strides : Addr
  fd_by_strides : FuncData
  F_by_strides : Fun K "by_strides" "by_strides" s_by_strides a_by_strides fd_by_strides
  b_by_strides : Binds K fd_by_strides ["machine", "row", "runs", "many"] []
  m_by_strides : mg "by_strides" = some (.ref a_by_strides)
  a_L_caught : Addr
  fd_L_caught : FuncData
  F_L_caught : Fun K "_law_caught" "_law_caught" s_L_caught a_L_caught fd_L_caught
  b_L_caught : Binds K fd_L_caught ["_law_turn", "_law_machine_here", "_law_number"] []
  m_L_caught : mg "_law_caught" = some (.ref a_L_caught)
  a_law : Addr
  fd_law : FuncData
  F_law : Fun K "law" "law" s_law a_law fd_law
  b_law : Binds K fd_law ["_law_script"] []
  m_law : mg "law" = some (.ref a_law)
  C_Full : Addr
  m_Full : mg "Full" = some (.ref C_Full)
  C_NoDeed : Addr
  m_NoDeed : mg "NoDeed" = some (.ref C_NoDeed)
  C_NoMachine : Addr
  m_NoMachine : mg "NoMachine" = some (.ref C_NoMachine)
  C_NoName : Addr
  m_NoName : mg "NoName" = some (.ref C_NoName)
  C_NoPaper : Addr
  m_NoPaper : mg "NoPaper" = some (.ref C_NoPaper)
  C_NoSize : Addr
  m_NoSize : mg "NoSize" = some (.ref C_NoSize)
  C_NoSuch : Addr
  m_NoSuch : mg "NoSuch" = some (.ref C_NoSuch)
  C_NoText : Addr
  m_NoText : mg "NoText" = some (.ref C_NoText)
  C_NoWidth : Addr
  m_NoWidth : mg "NoWidth" = some (.ref C_NoWidth)
  C_Twice : Addr
  m_Twice : mg "Twice" = some (.ref C_Twice)
  C_Walk : Addr
  m_Walk : mg "Walk" = some (.ref C_Walk)
  cl_Walk : Cls K C_Walk
  M_Walk : Mk K C_Walk a_Walk_init
  M_Walk_block : Meth K C_Walk "block" a_Walk_block
  M_Walk_place : Meth K C_Walk "place" a_Walk_place
  M_Walk_out : Meth K C_Walk "out" a_Walk_out
  M_Walk_strip : Meth K C_Walk "strip" a_Walk_strip
  nA_Walk_long : NoAttr K C_Walk "long"
  nA_Walk_blocks : NoAttr K C_Walk "blocks"
  nA_Walk_at : NoAttr K C_Walk "at"
  nA_Walk_row : NoAttr K C_Walk "row"
  nA_Walk_side : NoAttr K C_Walk "side"
  nA_Walk_steps : NoAttr K C_Walk "steps"
  C_Strip : Addr
  m_Strip : mg "Strip" = some (.ref C_Strip)
  cl_Strip : Cls K C_Strip
  M_Strip : Mk K C_Strip a_Strip_init
  M_Strip_told : Meth K C_Strip "told" a_Strip_told
  M_Strip_stride : Meth K C_Strip "stride" a_Strip_stride
  M_Strip_step : Meth K C_Strip "step" a_Strip_step
  nA_Strip_sides : NoAttr K C_Strip "sides"
  nA_Strip_sign : NoAttr K C_Strip "sign"
  nA_Strip_row : NoAttr K C_Strip "row"
  nA_Strip_steps : NoAttr K C_Strip "steps"
  C_MillError : Addr
  m_MillError : mg "MillError" = some (.ref C_MillError)
  tk_MOST_ROWS : Tok
  m_MOST_ROWS : mg "MOST_ROWS" = some (.int 4 tk_MOST_ROWS)
  tk_MOST_SIGNS : Tok
  m_MOST_SIGNS : mg "MOST_SIGNS" = some (.int 4 tk_MOST_SIGNS)
  n_len : mg "len" = none
  n_max : mg "max" = none
  n_int : mg "int" = none
  n_range : mg "range" = none
  n_list : mg "list" = none
  n_isinstance : mg "isinstance" = none
  n_ValueError : mg "ValueError" = none
  n_all : mg "all" = none
  n_tuple : mg "tuple" = none
  n_sorted : mg "sorted" = none
  n_enumerate : mg "enumerate" = none
  x_NoMachine : PySem.W.excIn K C_NoMachine [.type "ValueError", .type "Exception", .type "BaseException", .type "object"] "ValueError.__new__" = true
  k_NoMachine : PySem.W.keepIn K (.ref C_NoMachine) = true
  b_NoMachine : PySem.W.subIn K (.ref C_NoMachine) (.type "BaseException") = some true
  t_NoMachine : PySem.W.typeIn K (.ref C_NoMachine) = some (.type "type")
  h_NoMachine : PySem.W.hasDictIn K C_NoMachine = true
  k_MillError : PySem.W.keepIn K (.ref C_MillError) = true
  b_MillError : PySem.W.subIn K (.ref C_MillError) (.type "BaseException") = some true
  t_MillError : PySem.W.typeIn K (.ref C_MillError) = some (.type "type")
  h_MillError : PySem.W.hasDictIn K C_MillError = true
  hg_NoMachine : PySem.W.findIn K (.ref C_NoMachine) "__getattribute__" = some (some (.builtin "BaseException.__getattribute__"))
  hk_NoMachine : PySem.W.findIn K (.ref C_NoMachine) "__getattr__" = some none
  ha_NoMachine : PySem.W.findIn K (.ref C_NoMachine) "__class__" = some (some (.builtin "object.__class__"))
  hm_NoMachine : PySem.W.mroIn K C_NoMachine (.type "object") = some true
  s_NoMachine_MillError : PySem.W.subIn K (.ref C_NoMachine) (.ref C_MillError) = some true
  hn_ : PySem.W.specialIn K (.builtin "object.__class__") "__get__" = some (some (.builtin "getset_descriptor.__get__"))
  ht_ : PySem.W.takesIn K (.builtin "object.__class__") = some true
  i_Full : PySem.W.isClsIn K C_Full = true
  se_Full : PySem.W.subIn K (.ref C_Full) (.ref C_Full) = some true
  t_Full : PySem.W.typeIn K (.ref C_Full) = some (.type "type")
  s_NoMachine_Full : PySem.W.subIn K (.ref C_NoMachine) (.ref C_Full) = some false
  sn_Full : PySem.W.subIn K (.type "NoneType") (.ref C_Full) = some false
  i_NoDeed : PySem.W.isClsIn K C_NoDeed = true
  se_NoDeed : PySem.W.subIn K (.ref C_NoDeed) (.ref C_NoDeed) = some true
  t_NoDeed : PySem.W.typeIn K (.ref C_NoDeed) = some (.type "type")
  s_NoMachine_NoDeed : PySem.W.subIn K (.ref C_NoMachine) (.ref C_NoDeed) = some false
  sn_NoDeed : PySem.W.subIn K (.type "NoneType") (.ref C_NoDeed) = some false
  i_NoMachine : PySem.W.isClsIn K C_NoMachine = true
  se_NoMachine : PySem.W.subIn K (.ref C_NoMachine) (.ref C_NoMachine) = some true
  s_NoMachine_NoMachine : PySem.W.subIn K (.ref C_NoMachine) (.ref C_NoMachine) = some true
  sn_NoMachine : PySem.W.subIn K (.type "NoneType") (.ref C_NoMachine) = some false
  i_NoName : PySem.W.isClsIn K C_NoName = true
  se_NoName : PySem.W.subIn K (.ref C_NoName) (.ref C_NoName) = some true
  t_NoName : PySem.W.typeIn K (.ref C_NoName) = some (.type "type")
  s_NoMachine_NoName : PySem.W.subIn K (.ref C_NoMachine) (.ref C_NoName) = some false
  sn_NoName : PySem.W.subIn K (.type "NoneType") (.ref C_NoName) = some false
  i_NoPaper : PySem.W.isClsIn K C_NoPaper = true
  se_NoPaper : PySem.W.subIn K (.ref C_NoPaper) (.ref C_NoPaper) = some true
  t_NoPaper : PySem.W.typeIn K (.ref C_NoPaper) = some (.type "type")
  s_NoMachine_NoPaper : PySem.W.subIn K (.ref C_NoMachine) (.ref C_NoPaper) = some false
  sn_NoPaper : PySem.W.subIn K (.type "NoneType") (.ref C_NoPaper) = some false
  i_NoSize : PySem.W.isClsIn K C_NoSize = true
  se_NoSize : PySem.W.subIn K (.ref C_NoSize) (.ref C_NoSize) = some true
  t_NoSize : PySem.W.typeIn K (.ref C_NoSize) = some (.type "type")
  s_NoMachine_NoSize : PySem.W.subIn K (.ref C_NoMachine) (.ref C_NoSize) = some false
  sn_NoSize : PySem.W.subIn K (.type "NoneType") (.ref C_NoSize) = some false
  i_NoSuch : PySem.W.isClsIn K C_NoSuch = true
  se_NoSuch : PySem.W.subIn K (.ref C_NoSuch) (.ref C_NoSuch) = some true
  t_NoSuch : PySem.W.typeIn K (.ref C_NoSuch) = some (.type "type")
  s_NoMachine_NoSuch : PySem.W.subIn K (.ref C_NoMachine) (.ref C_NoSuch) = some false
  sn_NoSuch : PySem.W.subIn K (.type "NoneType") (.ref C_NoSuch) = some false
  i_NoText : PySem.W.isClsIn K C_NoText = true
  se_NoText : PySem.W.subIn K (.ref C_NoText) (.ref C_NoText) = some true
  t_NoText : PySem.W.typeIn K (.ref C_NoText) = some (.type "type")
  s_NoMachine_NoText : PySem.W.subIn K (.ref C_NoMachine) (.ref C_NoText) = some false
  sn_NoText : PySem.W.subIn K (.type "NoneType") (.ref C_NoText) = some false
  i_NoWidth : PySem.W.isClsIn K C_NoWidth = true
  se_NoWidth : PySem.W.subIn K (.ref C_NoWidth) (.ref C_NoWidth) = some true
  t_NoWidth : PySem.W.typeIn K (.ref C_NoWidth) = some (.type "type")
  s_NoMachine_NoWidth : PySem.W.subIn K (.ref C_NoMachine) (.ref C_NoWidth) = some false
  sn_NoWidth : PySem.W.subIn K (.type "NoneType") (.ref C_NoWidth) = some false
  i_Twice : PySem.W.isClsIn K C_Twice = true
  se_Twice : PySem.W.subIn K (.ref C_Twice) (.ref C_Twice) = some true
  t_Twice : PySem.W.typeIn K (.ref C_Twice) = some (.type "type")
  s_NoMachine_Twice : PySem.W.subIn K (.ref C_NoMachine) (.ref C_Twice) = some false
  sn_Twice : PySem.W.subIn K (.type "NoneType") (.ref C_Twice) = some false
  s_NoMachine_ValueError : PySem.W.subIn K (.ref C_NoMachine) (.type "ValueError") = some true
theorem ec_NoMachine {K : PySem.W.Frag} {mg : Str → Option Value} (t : Tx K mg) : ExcC K t.C_NoMachine := ⟨t.hg_NoMachine, t.hk_NoMachine, t.b_NoMachine, t.h_NoMachine, t.ha_NoMachine, t.hn_, t.ht_, t.hm_NoMachine⟩
theorem em_NoMachine_MillError {K : PySem.W.Frag} {mg : Str → Option Value} (t : Tx K mg) : PySem.W.exmOne K (.ref t.C_NoMachine) (.ref t.C_MillError) = some true := PySem.W.exm_ref t.b_MillError t.h_MillError t.t_MillError t.s_NoMachine_MillError
/-! ### the fields of a Walk -/
theorem ne_Walk_long_blocks : ¬ (("long" : Str) = "blocks") := by decide +kernel
theorem ne_Walk_long_at : ¬ (("long" : Str) = "at") := by decide +kernel
theorem ne_Walk_long_row : ¬ (("long" : Str) = "row") := by decide +kernel
theorem ne_Walk_long_side : ¬ (("long" : Str) = "side") := by decide +kernel
theorem ne_Walk_long_steps : ¬ (("long" : Str) = "steps") := by decide +kernel
theorem ne_Walk_blocks_long : ¬ (("blocks" : Str) = "long") := by decide +kernel
theorem ne_Walk_blocks_at : ¬ (("blocks" : Str) = "at") := by decide +kernel
theorem ne_Walk_blocks_row : ¬ (("blocks" : Str) = "row") := by decide +kernel
theorem ne_Walk_blocks_side : ¬ (("blocks" : Str) = "side") := by decide +kernel
theorem ne_Walk_blocks_steps : ¬ (("blocks" : Str) = "steps") := by decide +kernel
theorem ne_Walk_at_long : ¬ (("at" : Str) = "long") := by decide +kernel
theorem ne_Walk_at_blocks : ¬ (("at" : Str) = "blocks") := by decide +kernel
theorem ne_Walk_at_row : ¬ (("at" : Str) = "row") := by decide +kernel
theorem ne_Walk_at_side : ¬ (("at" : Str) = "side") := by decide +kernel
theorem ne_Walk_at_steps : ¬ (("at" : Str) = "steps") := by decide +kernel
theorem ne_Walk_row_long : ¬ (("row" : Str) = "long") := by decide +kernel
theorem ne_Walk_row_blocks : ¬ (("row" : Str) = "blocks") := by decide +kernel
theorem ne_Walk_row_at : ¬ (("row" : Str) = "at") := by decide +kernel
theorem ne_Walk_row_side : ¬ (("row" : Str) = "side") := by decide +kernel
theorem ne_Walk_row_steps : ¬ (("row" : Str) = "steps") := by decide +kernel
theorem ne_Walk_side_long : ¬ (("side" : Str) = "long") := by decide +kernel
theorem ne_Walk_side_blocks : ¬ (("side" : Str) = "blocks") := by decide +kernel
theorem ne_Walk_side_at : ¬ (("side" : Str) = "at") := by decide +kernel
theorem ne_Walk_side_row : ¬ (("side" : Str) = "row") := by decide +kernel
theorem ne_Walk_side_steps : ¬ (("side" : Str) = "steps") := by decide +kernel
theorem ne_Walk_steps_long : ¬ (("steps" : Str) = "long") := by decide +kernel
theorem ne_Walk_steps_blocks : ¬ (("steps" : Str) = "blocks") := by decide +kernel
theorem ne_Walk_steps_at : ¬ (("steps" : Str) = "at") := by decide +kernel
theorem ne_Walk_steps_row : ¬ (("steps" : Str) = "row") := by decide +kernel
theorem ne_Walk_steps_side : ¬ (("steps" : Str) = "side") := by decide +kernel
def Walk_F (v0 v1 v2 v3 v4 v5 : V) : List (Str × V) := [("long", v0), ("blocks", v1), ("at", v2), ("row", v3), ("side", v4), ("steps", v5)]
theorem Walk_mk0 (v0 : V) : putF "long" v0 ([] : List (Str × V)) = ([("long", v0)] : List (Str × V)) := by
  simp only [putF]
theorem Walk_mk1 (v0 v1 : V) : putF "blocks" v1 ([("long", v0)] : List (Str × V)) = ([("long", v0), ("blocks", v1)] : List (Str × V)) := by
  simp only [putF, if_neg ne_Walk_long_blocks]
theorem Walk_mk2 (v0 v1 v2 : V) : putF "at" v2 ([("long", v0), ("blocks", v1)] : List (Str × V)) = ([("long", v0), ("blocks", v1), ("at", v2)] : List (Str × V)) := by
  simp only [putF, if_neg ne_Walk_long_at, if_neg ne_Walk_blocks_at]
theorem Walk_mk3 (v0 v1 v2 v3 : V) : putF "row" v3 ([("long", v0), ("blocks", v1), ("at", v2)] : List (Str × V)) = ([("long", v0), ("blocks", v1), ("at", v2), ("row", v3)] : List (Str × V)) := by
  simp only [putF, if_neg ne_Walk_long_row, if_neg ne_Walk_blocks_row, if_neg ne_Walk_at_row]
theorem Walk_mk4 (v0 v1 v2 v3 v4 : V) : putF "side" v4 ([("long", v0), ("blocks", v1), ("at", v2), ("row", v3)] : List (Str × V)) = ([("long", v0), ("blocks", v1), ("at", v2), ("row", v3), ("side", v4)] : List (Str × V)) := by
  simp only [putF, if_neg ne_Walk_long_side, if_neg ne_Walk_blocks_side, if_neg ne_Walk_at_side, if_neg ne_Walk_row_side]
theorem Walk_mk5 (v0 v1 v2 v3 v4 v5 : V) : putF "steps" v5 ([("long", v0), ("blocks", v1), ("at", v2), ("row", v3), ("side", v4)] : List (Str × V)) = ([("long", v0), ("blocks", v1), ("at", v2), ("row", v3), ("side", v4), ("steps", v5)] : List (Str × V)) := by
  simp only [putF, if_neg ne_Walk_long_steps, if_neg ne_Walk_blocks_steps, if_neg ne_Walk_at_steps, if_neg ne_Walk_row_steps, if_neg ne_Walk_side_steps]
theorem Walk_get_long {v0 v1 v2 v3 v4 v5 : V} : (Walk_F v0 v1 v2 v3 v4 v5).lookup ("long" : Str) = some v0 := by
  have e : Walk_F v0 v1 v2 v3 v4 v5 = putF "long" v0 (Walk_F v0 v1 v2 v3 v4 v5) := by
    unfold Walk_F
    simp only [putF, if_true]
  rw [e, lookup_putF, if_pos rfl]
theorem Walk_put_long {v0 v1 v2 v3 v4 v5 y : V} : putF "long" y (Walk_F v0 v1 v2 v3 v4 v5) = Walk_F y v1 v2 v3 v4 v5 := by
  unfold Walk_F
  simp only [putF, if_true]
theorem Walk_get_blocks {v0 v1 v2 v3 v4 v5 : V} : (Walk_F v0 v1 v2 v3 v4 v5).lookup ("blocks" : Str) = some v1 := by
  have e : Walk_F v0 v1 v2 v3 v4 v5 = putF "blocks" v1 (Walk_F v0 v1 v2 v3 v4 v5) := by
    unfold Walk_F
    simp only [putF, if_neg ne_Walk_long_blocks, if_true]
  rw [e, lookup_putF, if_pos rfl]
theorem Walk_put_blocks {v0 v1 v2 v3 v4 v5 y : V} : putF "blocks" y (Walk_F v0 v1 v2 v3 v4 v5) = Walk_F v0 y v2 v3 v4 v5 := by
  unfold Walk_F
  simp only [putF, if_neg ne_Walk_long_blocks, if_true]
theorem Walk_get_at {v0 v1 v2 v3 v4 v5 : V} : (Walk_F v0 v1 v2 v3 v4 v5).lookup ("at" : Str) = some v2 := by
  have e : Walk_F v0 v1 v2 v3 v4 v5 = putF "at" v2 (Walk_F v0 v1 v2 v3 v4 v5) := by
    unfold Walk_F
    simp only [putF, if_neg ne_Walk_long_at, if_neg ne_Walk_blocks_at, if_true]
  rw [e, lookup_putF, if_pos rfl]
theorem Walk_put_at {v0 v1 v2 v3 v4 v5 y : V} : putF "at" y (Walk_F v0 v1 v2 v3 v4 v5) = Walk_F v0 v1 y v3 v4 v5 := by
  unfold Walk_F
  simp only [putF, if_neg ne_Walk_long_at, if_neg ne_Walk_blocks_at, if_true]
theorem Walk_get_row {v0 v1 v2 v3 v4 v5 : V} : (Walk_F v0 v1 v2 v3 v4 v5).lookup ("row" : Str) = some v3 := by
  have e : Walk_F v0 v1 v2 v3 v4 v5 = putF "row" v3 (Walk_F v0 v1 v2 v3 v4 v5) := by
    unfold Walk_F
    simp only [putF, if_neg ne_Walk_long_row, if_neg ne_Walk_blocks_row, if_neg ne_Walk_at_row, if_true]
  rw [e, lookup_putF, if_pos rfl]
theorem Walk_put_row {v0 v1 v2 v3 v4 v5 y : V} : putF "row" y (Walk_F v0 v1 v2 v3 v4 v5) = Walk_F v0 v1 v2 y v4 v5 := by
  unfold Walk_F
  simp only [putF, if_neg ne_Walk_long_row, if_neg ne_Walk_blocks_row, if_neg ne_Walk_at_row, if_true]
theorem Walk_get_side {v0 v1 v2 v3 v4 v5 : V} : (Walk_F v0 v1 v2 v3 v4 v5).lookup ("side" : Str) = some v4 := by
  have e : Walk_F v0 v1 v2 v3 v4 v5 = putF "side" v4 (Walk_F v0 v1 v2 v3 v4 v5) := by
    unfold Walk_F
    simp only [putF, if_neg ne_Walk_long_side, if_neg ne_Walk_blocks_side, if_neg ne_Walk_at_side, if_neg ne_Walk_row_side, if_true]
  rw [e, lookup_putF, if_pos rfl]
theorem Walk_put_side {v0 v1 v2 v3 v4 v5 y : V} : putF "side" y (Walk_F v0 v1 v2 v3 v4 v5) = Walk_F v0 v1 v2 v3 y v5 := by
  unfold Walk_F
  simp only [putF, if_neg ne_Walk_long_side, if_neg ne_Walk_blocks_side, if_neg ne_Walk_at_side, if_neg ne_Walk_row_side, if_true]
theorem Walk_get_steps {v0 v1 v2 v3 v4 v5 : V} : (Walk_F v0 v1 v2 v3 v4 v5).lookup ("steps" : Str) = some v5 := by
  have e : Walk_F v0 v1 v2 v3 v4 v5 = putF "steps" v5 (Walk_F v0 v1 v2 v3 v4 v5) := by
    unfold Walk_F
    simp only [putF, if_neg ne_Walk_long_steps, if_neg ne_Walk_blocks_steps, if_neg ne_Walk_at_steps, if_neg ne_Walk_row_steps, if_neg ne_Walk_side_steps, if_true]
  rw [e, lookup_putF, if_pos rfl]
theorem Walk_put_steps {v0 v1 v2 v3 v4 v5 y : V} : putF "steps" y (Walk_F v0 v1 v2 v3 v4 v5) = Walk_F v0 v1 v2 v3 v4 y := by
  unfold Walk_F
  simp only [putF, if_neg ne_Walk_long_steps, if_neg ne_Walk_blocks_steps, if_neg ne_Walk_at_steps, if_neg ne_Walk_row_steps, if_neg ne_Walk_side_steps, if_true]
theorem Walk_no {v0 v1 v2 v3 v4 v5 : V} {m : Str} (h0 : ¬ m = "long") (h1 : ¬ m = "blocks") (h2 : ¬ m = "at") (h3 : ¬ m = "row") (h4 : ¬ m = "side") (h5 : ¬ m = "steps") : (Walk_F v0 v1 v2 v3 v4 v5).lookup m = none := by
  have h : ∀ (f : Str) (v : V) (r : List (Str × V)), ¬ m = f → r.lookup m = none → ((f, v) :: r).lookup m = none := fun f v r n q => by
    rw [List.lookup_cons, beq_eq_false_iff_ne.mpr n]; exact q
  unfold Walk_F
  exact h _ _ _ h0 (h _ _ _ h1 (h _ _ _ h2 (h _ _ _ h3 (h _ _ _ h4 (h _ _ _ h5 rfl)))))
theorem Walk_few {v0 v1 v2 v3 v4 v5 : V} : (Walk_F v0 v1 v2 v3 v4 v5).length < 1000 := by show 6 < 1000; decide
/-! ### the fields of a Strip -/
theorem ne_Strip_sides_sign : ¬ (("sides" : Str) = "sign") := by decide +kernel
theorem ne_Strip_sides_row : ¬ (("sides" : Str) = "row") := by decide +kernel
theorem ne_Strip_sides_steps : ¬ (("sides" : Str) = "steps") := by decide +kernel
theorem ne_Strip_sign_sides : ¬ (("sign" : Str) = "sides") := by decide +kernel
theorem ne_Strip_sign_row : ¬ (("sign" : Str) = "row") := by decide +kernel
theorem ne_Strip_sign_steps : ¬ (("sign" : Str) = "steps") := by decide +kernel
theorem ne_Strip_row_sides : ¬ (("row" : Str) = "sides") := by decide +kernel
theorem ne_Strip_row_sign : ¬ (("row" : Str) = "sign") := by decide +kernel
theorem ne_Strip_row_steps : ¬ (("row" : Str) = "steps") := by decide +kernel
theorem ne_Strip_steps_sides : ¬ (("steps" : Str) = "sides") := by decide +kernel
theorem ne_Strip_steps_sign : ¬ (("steps" : Str) = "sign") := by decide +kernel
theorem ne_Strip_steps_row : ¬ (("steps" : Str) = "row") := by decide +kernel
def Strip_F (v0 v1 v2 v3 : V) : List (Str × V) := [("sides", v0), ("sign", v1), ("row", v2), ("steps", v3)]
theorem Strip_mk0 (v0 : V) : putF "sides" v0 ([] : List (Str × V)) = ([("sides", v0)] : List (Str × V)) := by
  simp only [putF]
theorem Strip_mk1 (v0 v1 : V) : putF "sign" v1 ([("sides", v0)] : List (Str × V)) = ([("sides", v0), ("sign", v1)] : List (Str × V)) := by
  simp only [putF, if_neg ne_Strip_sides_sign]
theorem Strip_mk2 (v0 v1 v2 : V) : putF "row" v2 ([("sides", v0), ("sign", v1)] : List (Str × V)) = ([("sides", v0), ("sign", v1), ("row", v2)] : List (Str × V)) := by
  simp only [putF, if_neg ne_Strip_sides_row, if_neg ne_Strip_sign_row]
theorem Strip_mk3 (v0 v1 v2 v3 : V) : putF "steps" v3 ([("sides", v0), ("sign", v1), ("row", v2)] : List (Str × V)) = ([("sides", v0), ("sign", v1), ("row", v2), ("steps", v3)] : List (Str × V)) := by
  simp only [putF, if_neg ne_Strip_sides_steps, if_neg ne_Strip_sign_steps, if_neg ne_Strip_row_steps]
theorem Strip_get_sides {v0 v1 v2 v3 : V} : (Strip_F v0 v1 v2 v3).lookup ("sides" : Str) = some v0 := by
  have e : Strip_F v0 v1 v2 v3 = putF "sides" v0 (Strip_F v0 v1 v2 v3) := by
    unfold Strip_F
    simp only [putF, if_true]
  rw [e, lookup_putF, if_pos rfl]
theorem Strip_put_sides {v0 v1 v2 v3 y : V} : putF "sides" y (Strip_F v0 v1 v2 v3) = Strip_F y v1 v2 v3 := by
  unfold Strip_F
  simp only [putF, if_true]
theorem Strip_get_sign {v0 v1 v2 v3 : V} : (Strip_F v0 v1 v2 v3).lookup ("sign" : Str) = some v1 := by
  have e : Strip_F v0 v1 v2 v3 = putF "sign" v1 (Strip_F v0 v1 v2 v3) := by
    unfold Strip_F
    simp only [putF, if_neg ne_Strip_sides_sign, if_true]
  rw [e, lookup_putF, if_pos rfl]
theorem Strip_put_sign {v0 v1 v2 v3 y : V} : putF "sign" y (Strip_F v0 v1 v2 v3) = Strip_F v0 y v2 v3 := by
  unfold Strip_F
  simp only [putF, if_neg ne_Strip_sides_sign, if_true]
theorem Strip_get_row {v0 v1 v2 v3 : V} : (Strip_F v0 v1 v2 v3).lookup ("row" : Str) = some v2 := by
  have e : Strip_F v0 v1 v2 v3 = putF "row" v2 (Strip_F v0 v1 v2 v3) := by
    unfold Strip_F
    simp only [putF, if_neg ne_Strip_sides_row, if_neg ne_Strip_sign_row, if_true]
  rw [e, lookup_putF, if_pos rfl]
theorem Strip_put_row {v0 v1 v2 v3 y : V} : putF "row" y (Strip_F v0 v1 v2 v3) = Strip_F v0 v1 y v3 := by
  unfold Strip_F
  simp only [putF, if_neg ne_Strip_sides_row, if_neg ne_Strip_sign_row, if_true]
theorem Strip_get_steps {v0 v1 v2 v3 : V} : (Strip_F v0 v1 v2 v3).lookup ("steps" : Str) = some v3 := by
  have e : Strip_F v0 v1 v2 v3 = putF "steps" v3 (Strip_F v0 v1 v2 v3) := by
    unfold Strip_F
    simp only [putF, if_neg ne_Strip_sides_steps, if_neg ne_Strip_sign_steps, if_neg ne_Strip_row_steps, if_true]
  rw [e, lookup_putF, if_pos rfl]
theorem Strip_put_steps {v0 v1 v2 v3 y : V} : putF "steps" y (Strip_F v0 v1 v2 v3) = Strip_F v0 v1 v2 y := by
  unfold Strip_F
  simp only [putF, if_neg ne_Strip_sides_steps, if_neg ne_Strip_sign_steps, if_neg ne_Strip_row_steps, if_true]
theorem Strip_no {v0 v1 v2 v3 : V} {m : Str} (h0 : ¬ m = "sides") (h1 : ¬ m = "sign") (h2 : ¬ m = "row") (h3 : ¬ m = "steps") : (Strip_F v0 v1 v2 v3).lookup m = none := by
  have h : ∀ (f : Str) (v : V) (r : List (Str × V)), ¬ m = f → r.lookup m = none → ((f, v) :: r).lookup m = none := fun f v r n q => by
    rw [List.lookup_cons, beq_eq_false_iff_ne.mpr n]; exact q
  unfold Strip_F
  exact h _ _ _ h0 (h _ _ _ h1 (h _ _ _ h2 (h _ _ _ h3 rfl)))
theorem Strip_few {v0 v1 v2 v3 : V} : (Strip_F v0 v1 v2 v3).length < 1000 := by show 4 < 1000; decide
section
variable {P : Program} {w : World} {K : PySem.W.Frag} {mg : Str → Option Value} {base : Heap}
/-! ### small things -/
theorem ln {H : Hp} {p q : Addr} {o u : HO} (n : H q = none) (h : H p = some o) : upd H q u p = some o := (upd_ne (ne_of_none h n)).trans h
theorem kt_int_int {K : PySem.W.Frag} : PySem.W.kitOne K (.type "int") (.type "int") = some true := kit_ty (by decide +kernel)
theorem kt_int_bool {K : PySem.W.Frag} : PySem.W.kitOne K (.type "int") (.type "bool") = some false := kit_ty (by decide +kernel)
theorem kt_tup {K : PySem.W.Frag} : PySem.W.kitOne K (.type "tuple") (.type "tuple") = some true := kit_ty (by decide +kernel)
theorem kt_list {K : PySem.W.Frag} : PySem.W.kitOne K (.type "list") (.type "list") = some true := kit_ty (by decide +kernel)
theorem gr_purse {H H1 : Hp} (s : Same H H1) : Gr mu0 H H H H1 := ⟨fun _ _ h => h, s, fun _ _ h => .inl h, fun c o h _ => s c o h, fun c h => s.free h⟩
theorem at_end {xs : List V} {k : Nat} {v : V} (l : xs.length = k + 1) (h : xs[k]? = some v) : atI xs (-1) = some v := by
  have e : ixN xs.length (-1) = some k := by
    unfold ixN
    rw [if_neg (by decide), if_pos (by omega)]
    congr 1
    omega
  unfold atI
  rw [e]
  exact h
theorem cut_all {xs : List V} {j : Nat} (h : xs.length ≤ j) : cutV xs none (some (j : Int)) = xs := by
  unfold cutV
  have e1 : HT.sIx xs.length 0 none = 0 := rfl
  have e2 : HT.sIx xs.length xs.length (some (j : Int)) = xs.length := by
    simp only [HT.sIx]
    rw [if_neg (by omega), Int.toNat_natCast]
    omega
  rw [e1, e2, List.drop_zero, Nat.sub_zero, List.take_length]
theorem map_take_succ {α β : Type} {f : α → β} {xs : List α} {i : Nat} {x : α} (h : xs[i]? = some x) : (xs.take (i + 1)).map f = (xs.take i).map f ++ [f x] := by
  rw [List.take_add_one, h, List.map_append]; rfl
theorem cut_1 {xs : List V} : cutV xs (some 1) none = xs.drop 1 := by
  unfold cutV
  have e2 : HT.sIx xs.length xs.length none = xs.length := rfl
  rw [e2]
  cases xs with
  | nil => simp
  | cons x xs =>
    have e1 : HT.sIx (x :: xs).length 0 (some 1) = 1 := by
      simp only [HT.sIx, List.length_cons]
      rw [if_neg (by decide), show (1 : Int).toNat = 1 from rfl]
      omega
    rw [e1]
    show (xs.take (xs.length + 1 - 1)) = xs
    rw [Nat.add_sub_cancel, List.take_length]
theorem cut32 : ¬ (HT.sIx 3 0 none = 0 ∧ HT.sIx 3 3 (some 2) = 3) := by decide
theorem Gr.frzS {mu : Addr → Prop} {F H F1 H1 : Hp} (g : Gr mu F H F1 H1) (P : Addr → Prop) [DecidablePred P] (h : ∀ c, P c → H c = none ∧ F1 c = none) : Gr mu F H (fun c => if P c then H1 c else F1 c) H1 ∧ Same F1 (fun c => if P c then H1 c else F1 c) := by
  have s : Same F1 (fun c => if P c then H1 c else F1 c) := fun c o e => by
    by_cases p : P c
    · rw [(h c p).2] at e; cases e
    · simp only [p, if_false]; exact e
  refine ⟨⟨fun c o e => s c o (g.ff c o e), fun c o e => ?_, fun c o e => ?_, g.fr, g.th⟩, s⟩
  · by_cases p : P c
    · simp only [p, if_true] at e; exact e
    · simp only [p, if_false] at e; exact g.fh c o e
  · by_cases p : P c
    · exact .inr (h c p).1
    · simp only [p, if_false] at e; exact g.nw c o e
/-! ### purses of three numbers -/
def PurseC (a c k : Int) : HO := .lst [.int a, .int c, .int k]
def PuAt (H : Hp) (p : Addr) (b : Int) : Prop := ∃ a c k : Int, H p = some (PurseC a c k) ∧ 0 ≤ k ∧ k ≤ b
theorem PuAt.le {H : Hp} {p : Addr} {b b' : Int} (h : PuAt H p b) (l : b ≤ b') : PuAt H p b' := by
  obtain ⟨a, c, k, e, h0, h1⟩ := h
  exact ⟨a, c, k, e, h0, by omega⟩
theorem PuAt.gr {mu : Addr → Prop} {F H F' H' : Hp} {p : Addr} {b : Int} (h : PuAt H p b) (g : Gr mu F H F' H') (m : ¬ mu p) : PuAt H' p b := by
  obtain ⟨a, c, k, e, h0, h1⟩ := h
  exact ⟨a, c, k, g.fr _ _ e m, h0, h1⟩
theorem PuAt.ln {H : Hp} {p q : Addr} {o : HO} {b : Int} (h : PuAt H p b) (n : H q = none) : PuAt (upd H q o) p b := by
  obtain ⟨a, c, k, e, h0, h1⟩ := h
  exact ⟨a, c, k, by rw [upd_ne (ne_of_none e n)]; exact e, h0, h1⟩
theorem PuAt.off {H : Hp} {p q : Addr} {o : HO} {b : Int} (h : PuAt H p b) (n : p ≠ q) : PuAt (upd H q o) p b := by
  obtain ⟨a, c, k, e, h0, h1⟩ := h
  exact ⟨a, c, k, by rw [upd_ne n]; exact e, h0, h1⟩
theorem PuAt.ex {H : Hp} {p : Addr} {b : Int} (h : PuAt H p b) : ∃ o, H p = some o := by
  obtain ⟨a, c, k, e, _⟩ := h
  exact ⟨_, e⟩
theorem Gr.pf0 {mu : Addr → Prop} {F H F1 H1 : Hp} {p : Addr} {o : HO} (g : Gr mu F H F1 H1) (f : F p = none) (h : H p = some o) : F1 p = none := by
  cases e : F1 p with
  | none => rfl
  | some z =>
    rcases g.nw p z e with k | k
    · rw [f] at k; cases k
    · rw [h] at k; cases k
theorem PuAt.f {mu : Addr → Prop} {F H F1 H1 : Hp} {p : Addr} {b : Int} (h : PuAt H p b) (f : F p = none) (g : Gr mu F H F1 H1) : F1 p = none := by
  obtain ⟨o, e⟩ := h.ex
  exact g.pf0 f e
theorem PuAt.ne {H : Hp} {p q : Addr} {b : Int} (h : PuAt H p b) (n : H q = none) : p ≠ q := by
  obtain ⟨o, e⟩ := h.ex
  exact ne_of_none e n
def sp_L_at (K : PySem.W.Frag) : Sp := fun vs H Q _ => ∃ (l : Addr) (ns : List Int) (k : Nat), vs = [.ref l, .int k] ∧ SqL K H l (ns.map V.int) ∧ ∀ z : Int, Q (.int z) H
theorem ok_L_at (t : Tx K mg) : FnOk P w K mg base CX0 1 t.a_L_at t.fd_L_at ["_law_script", "_law_k"] (sp_L_at K) := by
  refine t.F_L_at.ok sc_L_at (fun vs H Q E h => ?_) (fun cdv A outer s H vs Q E hr h => ?_)
  · obtain ⟨l, ns, k, rfl, _⟩ := h
    rfl
  · obtain ⟨l, ns, k, rfl, hl, q⟩ := h
    refine ⟨_, (pss_cons (ps_if (pt_cmpR op_lt (pv 1) (pe_callB (id := "len") call_lenQ (by rfl) t.n_len (by decide +kernel) (pa_cons (pv 0) pa_nil)) (nomark _)) (pss_one (ps_ret (pe_ix ix_list (pv 0) (pv 1) (fun _ _ => rfl)))) pss_nil)
      (pss_one (ps_ret pe_int))), ?_⟩
    refine ⟨_, rfl, _, rfl, l, _, rfl, .inl hl, _, _, rfl, rfl, _, rfl, ?_⟩
    refine ite2 (fun c => ?_) (fun c => ?_)
    · have c := of_decide_eq_true c
      have c : k < ns.length := by
        rw [List.length_map] at c
        omega
      refine ⟨_, rfl, _, rfl, l, _, _, _, rfl, rfl, hl, atI_nat (j := k) (by rw [List.getElem?_map, List.getElem?_eq_getElem c]; rfl), ?_⟩
      exact q _
    · exact q 0
def sp_L_mixed : Sp := fun vs H Q _ => ∃ c k : Int, vs = [.int c, .int k] ∧ 0 ≤ k ∧ k < 1000000 ∧ ∀ n : Int, Q (.int n) H
theorem ok_L_mixed (t : Tx K mg) : FnOk P w K mg base CX0 1 t.a_L_mixed t.fd_L_mixed ["_law_cell", "_law_k"] sp_L_mixed := by
  refine t.F_L_mixed.ok sc_L_mixed (fun vs H Q E h => ?_) (fun cdv A outer s H vs Q E hr h => ?_)
  · obtain ⟨c, k, rfl, _⟩ := h
    rfl
  · obtain ⟨c, k, rfl, k0, k1, q⟩ := h
    refine ⟨_, (pss_cons (ps_set (i := 0) sc_L_mixed.nd rfl (by first | exact Or.inl rfl | exact Or.inr rfl) (pe_op op_mod (pv 0) pe_int))
      (pss_cons (ps_set (i := 2) sc_L_mixed.nd rfl (by first | exact Or.inl rfl | exact Or.inr rfl) (pe_op op_mod (pe_op op_add (pe_op op_add (pe_op op_mul (pv 0) pe_int) (pe_op op_mul (pe_op op_mul pe_int (pv 1)) (pv 1))) (pv 1)) pe_int))
      (pss_cons (ps_set (i := 2) sc_L_mixed.nd rfl (by first | exact Or.inl rfl | exact Or.inr rfl) (pe_op op_mod (pe_op op_mul (pv 2) (pv 2)) pe_int))
      (pss_one (ps_ret (pe_op op_mod (pe_op op_mul (pv 2) pe_int) pe_int)))))), ?_⟩
    refine ⟨_, rfl, _, _, rfl, rfl, (by show (0 : Int) < 4611685803679178881; decide), ?_⟩
    generalize c % 4611685803679178881 = r
    refine ⟨_, rfl, _, _, rfl, rfl, .inr ⟨by decide, by decide⟩, _, rfl, _, _, rfl, rfl, .inl ⟨by decide, by decide⟩, _, rfl, _, _, rfl, rfl, .inr ⟨by omega, by omega⟩, _, _, rfl, rfl, _, rfl, _, _, rfl, rfl, _, _, rfl, rfl, (by show (0 : Int) < 2147483647; decide), ?_⟩
    have g0 := Int.emod_nonneg (r * 1103515245 + 7919 * k * k + k) (show (2147483647 : Int) ≠ 0 by decide)
    have g1 := Int.emod_lt_of_pos (r * 1103515245 + 7919 * k * k + k) (show (0 : Int) < 2147483647 by decide)
    generalize (r * 1103515245 + 7919 * k * k + k) % 2147483647 = n at g0 g1
    refine ⟨_, rfl, _, rfl, _, _, rfl, rfl, .inl ⟨by omega, by omega⟩, _, _, rfl, rfl, (by show (0 : Int) < 2147483629; decide), ?_⟩
    refine ⟨_, rfl, _, _, rfl, rfl, .inr ⟨by decide, by decide⟩, _, _, rfl, rfl, (by show (0 : Int) < 2147483587; decide), ?_⟩
    exact q _
def sp_L_purse (K : PySem.W.Frag) : Sp := fun vs H Q _ => ∃ (l : Addr) (ns : List Int) (k : Nat), vs = [.ref l, .int k] ∧ SqL K H l (ns.map V.int) ∧ k ≤ 12 ∧
  ∀ (p : Addr) (H' : Hp), Same H H' → H p = none → PuAt H' p 12000 → Q (.ref p) H'
theorem ok_L_purse (t : Tx K mg) : FnOk P w K mg base CX0 2 t.a_L_purse t.fd_L_purse ["_law_script", "_law_at_here"] (sp_L_purse K) := by
  refine t.F_L_purse.ok sc_L_purse (fun vs H Q E h => ?_) (fun cdv A outer s H vs Q E hr h => ?_)
  · obtain ⟨l, ns, k, rfl, _⟩ := h
    rfl
  · obtain ⟨l, ns, k, rfl, hl, k1, q⟩ := h
    refine ⟨_, (pss_cons (ps_set (i := 2) sc_L_purse.nd rfl (by first | exact Or.inl rfl | exact Or.inr rfl) (pe_call (ok_L_at t) (hr.mono (by decide)) (by rfl) t.m_L_at t.F_L_at.kp t.b_L_at .nil pass0 (pa_cons (pv 0) (pa_cons (pv 1) pa_nil))))
      (pss_one (ps_ret (pe_lst (pa_cons (pe_callB (id := "max") (call_max2 rfl) (by rfl) t.n_max (by decide +kernel) (pa_cons (pe_op op_sub (pv 2) (pe_op op_pow pe_int pe_int)) (pa_cons pe_int pa_nil))) (pa_cons (pv 2) (pa_cons (pe_op op_mul pe_int (pv 1)) pa_nil))))))), ?_⟩
    refine ⟨_, rfl, _, rfl, l, ns, k, rfl, hl, fun z => ?_⟩
    refine ⟨_, rfl, _, _, rfl, rfl, ⟨by decide, by decide, by decide⟩, _, _, rfl, rfl, _, _, rfl, ?_⟩
    refine ⟨_, rfl, _, rfl, _, _, rfl, rfl, .inl ⟨by decide, by decide⟩, three_le, fun p np => ?_⟩
    exact q p _ (sm_up np) np ⟨_, _, _, upd_same, by omega, by omega⟩
def sp_L_draw : Sp := fun vs H Q _ => ∃ (F : Hp) (p : Addr) (n b : Int), vs = [.ref p, .int n] ∧ Same F H ∧ F p = none ∧ PuAt H p b ∧ b ≤ 900000 ∧ 0 < n ∧ n < 1267650600228229401496703205376 ∧
  ∀ (d : Int) (H' : Hp), 0 ≤ d → d < n → Gr (muP p) F H F H' → PuAt H' p (b + 2) → Q (.int d) H'
theorem ok_L_draw (t : Tx K mg) : FnOk P w K mg base CX0 2 t.a_L_draw t.fd_L_draw ["_law_purse_here", "_law_out_of"] sp_L_draw := by
  refine t.F_L_draw.ok sc_L_draw (fun vs H Q E h => ?_) (fun cdv A outer s H vs Q E hr h => ?_)
  · obtain ⟨F, p, n, b, rfl, _⟩ := h
    rfl
  · obtain ⟨F, p, n, b, rfl, sF, fp, ⟨a, cc, k, hp, k0, kb⟩, hb, n0, n1, q⟩ := h
    refine ⟨_, (pss_cons (ps_if (pt_cmpR op_gt (pe_ix ix_list (pv 0) pe_int (fun _ _ => rfl)) pe_int (nomark _)) (pss_cons (ps_set (i := 2) sc_L_draw.nd rfl (by first | exact Or.inl rfl | exact Or.inr rfl) (pe_op op_mod (pe_ix ix_list (pv 0) pe_int (fun _ _ => rfl)) (pv 1)))
      (pss_cons (ps_asg (pe_op op_fdivW (pe_ix ix_list (pv 0) pe_int (fun _ _ => rfl)) (pv 1)) (pg_sub (pv 0) pe_int set_list))
      (pss_one (ps_ret (pv 2))))) pss_nil)
      (pss_cons (ps_asg (pe_op op_add (pe_ix ix_list (pv 0) pe_int (fun _ _ => rfl)) pe_int) (pg_sub (pv 0) pe_int set_list))
      (pss_cons (ps_set (i := 3) sc_L_draw.nd rfl (by first | exact Or.inl rfl | exact Or.inr rfl) (pe_call (ok_L_mixed t) (hr.mono (by decide)) (by rfl) t.m_L_mixed t.F_L_mixed.kp t.b_L_mixed .nil pass0 (pa_cons (pe_ix ix_list (pv 0) pe_int (fun _ _ => rfl)) (pa_cons (pe_ix ix_list (pv 0) pe_int (fun _ _ => rfl)) pa_nil))))
      (pss_one (ps_ret (pe_op op_mod (pe_op op_fdiv (pe_op op_add (pe_op op_mul (pv 3) pe_int) (pe_call (ok_L_mixed t) (hr.mono (by decide)) (by rfl) t.m_L_mixed t.F_L_mixed.kp t.b_L_mixed .nil pass0 (pa_cons (pe_op op_add (pe_ix ix_list (pv 0) pe_int (fun _ _ => rfl)) (pv 3)) (pa_cons (pe_op op_add (pe_ix ix_list (pv 0) pe_int (fun _ _ => rfl)) pe_int) pa_nil)))) pe_int) (pv 1))))))), ?_⟩
    have gr : ∀ a c k : Int, Gr (muP p) F H F (upd H p (PurseC a c k)) := fun a c k => (Gr.refl sF).set fp (.inr rfl)
    refine ⟨_, rfl, p, _, _, _, rfl, rfl, SqL.of hp, atI_nat (j := 0) rfl, _, _, rfl, rfl, _, rfl, ?_⟩
    refine ite2 (fun c => ?_) (fun c => ?_)
    · refine ⟨_, rfl, p, _, _, _, rfl, rfl, SqL.of hp, atI_nat (j := 0) rfl, _, rfl, _, _, rfl, rfl, n0, ?_⟩
      refine ⟨_, rfl, p, _, _, _, rfl, rfl, SqL.of hp, atI_nat (j := 0) rfl, _, rfl, _, _, rfl, rfl, wide_div n0 (b := 100) (by have e : (2 : Nat) ^ 100 = 1267650600228229401496703205376 := rfl; rw [e]; omega) (by decide) (by decide), _, rfl, p, _, _, 0, rfl, rfl, hp, rfl, _, rfl, ?_⟩
      exact q _ _ (Int.emod_nonneg _ (by omega)) (Int.emod_lt_of_pos _ n0) (gr _ _ _) ⟨_, _, _, upd_same, k0, by omega⟩
    · refine ⟨_, rfl, p, _, _, _, rfl, rfl, SqL.of hp, atI_nat (j := 2) rfl, _, _, rfl, rfl, _, rfl, p, _, _, 2, rfl, rfl, hp, rfl, ?_⟩
      have h2 : (upd H p (.lst ([.int a, .int cc, .int k].set 2 (.int (k + 2))))) p = some (PurseC a cc (k + 2)) := upd_same
      refine ⟨_, rfl, p, _, _, _, rfl, rfl, SqL.of h2, atI_nat (j := 1) rfl, _, rfl, p, _, _, _, rfl, rfl, SqL.of h2, atI_nat (j := 2) rfl, _, _, rfl, by omega, by omega, fun m => ?_⟩
      refine ⟨_, rfl, _, _, rfl, rfl, .inr ⟨by decide, by decide⟩, ?_⟩
      refine ⟨_, rfl, p, _, _, _, rfl, rfl, SqL.of h2, atI_nat (j := 1) rfl, _, rfl, _, _, rfl, rfl, _, rfl, p, _, _, _, rfl, rfl, SqL.of h2, atI_nat (j := 2) rfl, _, _, rfl, rfl, _, _, rfl, by omega, by omega, fun m2 => ?_⟩
      refine ⟨_, _, rfl, rfl, _, _, rfl, rfl, ⟨by decide, by decide⟩, _, rfl, _, _, rfl, rfl, n0, ?_⟩
      exact q _ _ (Int.emod_nonneg _ (by omega)) (Int.emod_lt_of_pos _ n0) (gr _ _ _) ⟨_, _, _, upd_same, by omega, by omega⟩
/-! ### what is a machine, of lists of lists of tuples of whole numbers -/
abbrev GE := Tup Int
abbrev GM := List (List GE)
def isE (R S : Nat) : List Int → Bool
  | [] => true
  | [p, w, r] => decide (0 ≤ p) && decide (p < (S : Int)) && (decide (w = -1) || decide (w = 1)) && decide (0 ≤ r) && decide (r < (R : Int))
  | _ => false
def isM (M : GM) : Bool := decide (1 ≤ M.length) && decide (M.length ≤ 4) && decide (2 ≤ (M.headD []).length) && decide ((M.headD []).length ≤ 4) && M.all (fun r => decide (r.length = (M.headD []).length)) && M.all (fun r => r.all fun e => isE M.length (M.headD []).length e.l)
theorem ints_of {F : Hp} {xs : List V} : ∀ {l : List Int}, IsAll F xs l → xs = l.map V.int := fun {l} h => by
  refine List.ext_getElem? fun i => ?_
  rw [List.getElem?_map]
  cases e : xs[i]? with
  | none =>
    have := List.getElem?_eq_none_iff.mp e
    rw [List.getElem?_eq_none (by rw [← h.1]; exact this)]; rfl
  | some x =>
    obtain ⟨z, hz, ez⟩ := h.get' e
    rw [hz]
    show some x = some (V.int z)
    rw [show x = V.int z from ez]
theorem all_intsT {F : Hp} (l : List Int) : IsAll F (l.map V.int) l := ⟨by rw [List.length_map], fun i x y h1 h2 => by
  rw [List.getElem?_map, h2] at h1
  exact (Option.some.inj h1).symm⟩
theorem inW (w : Int) : inV (V.int w) [V.int (-1), V.int 1] = (decide (w = -1) || decide (w = 1)) := by
  have h : ∀ a b : Int, (a == b) = decide (b = a) := fun a b => by rw [Bool.eq_iff_iff, beq_iff_eq, decide_eq_true_iff, eq_comm]
  simp [inV, eqV, h]
def sp_is_entry : Sp := fun vs H Q _ => ∃ (F : Hp) (v : V) (e : GE) (R S : Nat), vs = [v, .int R, .int S] ∧ Same F H ∧ Is F v e ∧ ∀ H', Gr mu0 F H F H' → Q (.bl (isE R S e.l)) H'
theorem ok_is_entry (t : Tx K mg) : FnOk P w K mg base CX0 1 t.a_is_entry t.fd_is_entry ["entry", "rows", "signs"] sp_is_entry := by
  refine t.F_is_entry.ok sc_is_entry (fun vs H Q E h => ?_) (fun cdv A outer s H vs Q E hr h => ?_)
  · obtain ⟨F, v, e, R, S, rfl, _⟩ := h
    rfl
  · obtain ⟨F, v, e, R, S, rfl, sF, hv, q⟩ := h
    refine ⟨_, (pss_cons (ps_if (pt_cmpR (op_eqD hr.units) (pv 0) (pe_tup pa_nil) (nomark _)) (pss_one (ps_ret pe_bl)) pss_nil)
      (pss_one (ps_ret (pe_and (pe_cmpR op_eq (pe_callB (id := "len") call_lenQ (by rfl) t.n_len (by decide +kernel) (pa_cons (pv 0) pa_nil)) pe_int (nomark _)) (pe_and (pe_chain op_le op_lt pe_int (pe_ix ix_tup (pv 0) pe_int (fun _ _ => rfl)) (pv 2)) (pe_and (pe_cmpR op_in_seq (pe_ix ix_tup (pv 0) pe_int (fun _ _ => rfl)) (pe_lst (pa_cons (pe_un un_neg pe_int) (pa_cons pe_int pa_nil))) (by rfl)) (pe_one (pe_chain op_le op_lt pe_int (pe_ix ix_tup (pv 0) pe_int (fun _ _ => rfl)) (pv 1))))))))), ?_⟩
    have g0 : Gr mu0 F H F H := Gr.refl sF
    refine ⟨_, rfl, nil_le, fun p np => ?_⟩
    have g1 : Gr mu0 F H F (upd H p (.tup [])) := g0.own np
    refine eq_dat (a := e) (b := (⟨[]⟩ : GE)) (hv.up g1.fh) ⟨p, _, rfl, upd_same, All2.nil⟩ ?_
    refine ⟨_, rfl, ?_⟩
    obtain ⟨l⟩ := e
    obtain ⟨a, xs, rfl, ha, hx⟩ := hv
    have hx : IsAll F xs l := hx
    obtain rfl := ints_of hx
    generalize upd H p (.tup []) = H1 at g1 ⊢
    have h1 := SqT.of (K := K) (g1.fh _ _ ha)
    match l, h1, q with
    | [], _, q => exact ifT (decide_eq_true rfl) (q _ g1)
    | [p], h1, q =>
      refine ifF (decide_eq_false (fun z => by cases z)) ?_
      exact ⟨_, rfl, a, _, rfl, .inr h1, rfl, _, rfl, ifF rfl (q _ g1)⟩
    | [p, w], h1, q =>
      refine ifF (decide_eq_false (fun z => by cases z)) ?_
      exact ⟨_, rfl, a, _, rfl, .inr h1, rfl, _, rfl, ifF rfl (q _ g1)⟩
    | p :: w :: r :: u :: l, h1, q =>
      refine ifF (decide_eq_false (fun z => by cases z)) ?_
      refine ⟨_, rfl, a, _, rfl, .inr h1, rfl, _, rfl, ifF ?_ (q _ g1)⟩
      refine decide_eq_false fun z => ?_
      have := V.int.inj z
      simp only [List.length_map, List.length_cons] at this
      omega
    | [p, w, r], h1, q =>
      refine ifF (decide_eq_false (fun z => by cases z)) ?_
      refine ⟨_, rfl, a, _, rfl, .inr h1, rfl, _, rfl, ifT rfl ?_⟩
      have q : ∀ H', Gr mu0 F H F H' → Q (.bl (decide (0 ≤ p) && decide (p < (S : Int)) && (decide (w = -1) || decide (w = 1)) && decide (0 ≤ r) && decide (r < (R : Int)))) H' := q
      refine ⟨_, rfl, a, _, _, _, rfl, rfl, h1, atI_nat (j := 0) rfl, _, _, rfl, rfl, _, rfl, ?_⟩
      by_cases o1 : 0 ≤ p
      · refine ifT (decide_eq_true o1) ⟨_, rfl, _, _, rfl, rfl, _, rfl, ?_⟩
        by_cases o2 : p < (S : Int)
        · refine ifT (decide_eq_true o2) ?_
          refine ⟨_, rfl, a, _, _, _, rfl, rfl, h1, atI_nat (j := 1) rfl, _, rfl, two_le, fun l nl => ?_⟩
          have g2 := g1.own (o := .lst [.int (-1), .int 1]) nl
          have h2 := SqT.of (K := K) (g2.fh _ _ ha)
          refine ⟨l, _, rfl, .inl (SqL.of upd_same), rfl, rfl, _, rfl, ?_⟩
          generalize upd H1 l (.lst [.int (-1), .int 1]) = H2 at g2 h2 ⊢
          rw [inW]
          cases o3 : (decide (w = -1) || decide (w = 1)) with
          | false => exact ifF rfl (by have z := q _ g2; rw [o3, Bool.and_false, Bool.false_and, Bool.false_and] at z; exact z)
          | true =>
            refine ifT rfl ?_
            rw [decide_eq_true o1, decide_eq_true o2, o3] at q
            refine ⟨_, rfl, a, _, _, _, rfl, rfl, h2, atI_nat (j := 2) rfl, _, _, rfl, rfl, _, rfl, ?_⟩
            by_cases o4 : 0 ≤ r
            · refine ifT (decide_eq_true o4) ⟨_, rfl, _, _, rfl, rfl, ?_⟩
              have z := q _ g2
              rw [decide_eq_true o4] at z
              exact z
            · refine ifF (decide_eq_false o4) ?_
              have z := q _ g2
              rw [decide_eq_false o4] at z
              exact z
        · refine ifF (decide_eq_false o2) ?_
          have z := q _ g1
          rw [decide_eq_false o2, Bool.and_false] at z
          exact z
      · refine ifF (decide_eq_false o1) ⟨_, rfl, ifF rfl ?_⟩
        have z := q _ g1
        rw [decide_eq_false o1] at z
        exact z
theorem mt1 {α β : Type} {f : α → β} {l : List α} {i : Nat} {x : α} (h : l[i]? = some x) : (l.take (i + 1)).map f = (l.take i).map f ++ [f x] := by
  rw [List.take_add_one, h, List.map_append]; rfl
theorem mt2 {α : Type} {f : α → Bool} {l : List α} {i : Nat} {x : α} (h : l[i]? = some x) : ((l.take i).map f).map V.bl ++ [V.bl (f x)] = ((l.take (i + 1)).map f).map V.bl := by
  rw [mt1 h, List.map_append]; rfl
theorem all_id {α : Type} (f : α → Bool) (l : List α) : (l.map f).all id = l.all f := by rw [List.all_map]; rfl
def sp_is_machine : Sp := fun vs H Q _ => ∃ (F : Hp) (v : V) (M : GM), vs = [v] ∧ Same F H ∧ Is F v M ∧ ∀ H', Gr mu0 F H F H' → Q (.bl (isM M)) H'
theorem ok_is_machine (t : Tx K mg) : FnOk P w K mg base CX0 2 t.a_is_machine t.fd_is_machine ["machine"] sp_is_machine := by
  refine t.F_is_machine.ok sc_is_machine (fun vs H Q E h => ?_) (fun cdv A outer s H vs Q E hr h => ?_)
  · obtain ⟨F, v, M, rfl, _⟩ := h
    rfl
  · obtain ⟨F, v, M, rfl, sF, hv, q⟩ := h
    refine ⟨_, (pss_cons (ps_set (i := 1) sc_is_machine.nd rfl (by first | exact Or.inl rfl | exact Or.inr rfl) (pe_callB (id := "len") call_lenQ (by rfl) t.n_len (by decide +kernel) (pa_cons (pv 0) pa_nil)))
      (pss_cons (ps_if (pt_not (pt_chain op_le op_le pe_int (pv 1) (pe_glob (v := .int 4) (by rfl) t.m_MOST_ROWS ⟨_, rfl⟩))) (pss_one (ps_ret pe_bl)) pss_nil)
      (pss_cons (ps_set (i := 2) sc_is_machine.nd rfl (by first | exact Or.inl rfl | exact Or.inr rfl) (pe_callB (id := "len") call_lenQ (by rfl) t.n_len (by decide +kernel) (pa_cons (pe_ix ix_list (pv 0) pe_int (fun _ _ => rfl)) pa_nil)))
      (pss_cons (ps_if (PW.pt (pw_or (pt_not (pt_chain op_le op_le pe_int (pv 2) (pe_glob (v := .int 4) (by rfl) t.m_MOST_SIGNS ⟨_, rfl⟩))) (pw_or1 (pt_not (pt_val (pe_callB (id := "all") (cr_all rfl) (by rfl) t.n_all (by decide +kernel) (pa_cons (pe_lc (own := [("row", 3)]) (g := gName 3) (tt := tYes) rfl sc_is_machine.nd (pi_list (pv 0)) (blkOk_by (N := N_is_machine) (sc := defScope s_is_machine) (by decide +kernel)) (fun _ _ _ _ _ => (pg_name (i := 3) sc_is_machine.nd rfl (by first | exact Or.inl rfl | exact Or.inr rfl))) (fun _ _ _ _ _ => pts_nil) (fun _ _ _ _ _ => (pe_cmpR op_eq (pe_callB (id := "len") (crK (K := K) (r := rLenQ) rfl call_lenQ) (by rfl) t.n_len (by decide +kernel) (pa_cons (pv 3) pa_nil)) (pv 2) (nomark _)))) pa_nil))))))) (pss_one (ps_ret pe_bl)) pss_nil)
      (pss_one (ps_ret (pe_callB (id := "all") (cr_all rfl) (by rfl) t.n_all (by decide +kernel) (pa_cons (pe_lc (own := [("row", 3)]) (g := gName 3) (tt := tYes) rfl sc_is_machine.nd (pi_list (pv 0)) (blkOk_by (N := N_is_machine) (sc := defScope s_is_machine) (by decide +kernel)) (fun _ _ _ _ _ => (pg_name (i := 3) sc_is_machine.nd rfl (by first | exact Or.inl rfl | exact Or.inr rfl))) (fun _ _ _ _ _ => pts_nil) (fun _ _ _ _ _ => (pe_callB (id := "all") (crK (K := K) (r := rAll) rfl (cr_all rfl)) (by rfl) t.n_all (by decide +kernel) (pa_cons (pe_lc (own := [("entry", 4)]) (g := gName 4) (tt := tYes) rfl sc_is_machine.nd (pi_listK (K := K) rfl (pv 3)) (blkOk_by (N := N_is_machine) (sc := { kind := PySem.ScopeKind.function, names := [(PySem.Str.ofString ".0", PySem.NameKind.local), (PySem.Str.ofString "row", PySem.NameKind.local), (PySem.Str.ofString "all", PySem.NameKind.globalImplicit), (PySem.Str.ofString "rows", PySem.NameKind.cell), (PySem.Str.ofString "signs", PySem.NameKind.cell)], isGenerator := false, isCoroutine := false }) (by decide +kernel)) (fun _ _ _ _ _ => (pg_name (i := 4) sc_is_machine.nd rfl (by first | exact Or.inl rfl | exact Or.inr rfl))) (fun _ _ _ _ _ => pts_nil) (fun _ _ _ _ _ => (pe_call (ok_is_entry t) (hr.mono (by decide)) (by rfl) t.m_is_entry t.F_is_entry.kp t.b_is_entry .nil pass0 (pa_cons (pv 4) (pa_cons (pv 1) (pa_cons (pv 2) pa_nil)))))) pa_nil)))) pa_nil)))))))), ?_⟩
    have g0 : Gr mu0 F H F H := Gr.refl sF
    obtain ⟨a, rs, rfl, ha, hrs⟩ := hv
    have h0 := sF _ _ ha
    have lr := hrs.1
    refine ⟨_, rfl, a, rs, rfl, .inl (SqL.of h0), _, rfl, _, _, rfl, rfl, _, rfl, ?_⟩
    by_cases c1 : 1 ≤ M.length
    case neg =>
      refine ifF (decide_eq_false (by omega)) ⟨_, rfl, ifT rfl ?_⟩
      have z := q _ g0
      unfold isM at z
      rw [decide_eq_false c1] at z
      exact z
    refine ifT (decide_eq_true (by omega)) ⟨_, _, rfl, rfl, _, rfl, ?_⟩
    by_cases c2 : M.length ≤ 4
    case neg =>
      refine ifT (by rw [decide_eq_false (show ¬ (rs.length : Int) ≤ 4 by omega)]; rfl) ?_
      have z := q _ g0
      unfold isM at z
      rw [decide_eq_true c1, decide_eq_false c2] at z
      exact z
    refine ifF (by rw [decide_eq_true (show (rs.length : Int) ≤ 4 by omega)]; rfl) ?_
    have l0 : 0 < rs.length := by omega
    have hx0 : rs[0]? = some rs[0] := List.getElem?_eq_getElem l0
    obtain ⟨row0, hM0, a0, es0, e0, ha0, hes0⟩ := hrs.get' hx0
    have hb0 := sF _ _ ha0
    have ls0 : es0.length = row0.length := hes0.1
    have eh : M.headD [] = row0 := by
      cases M with
      | nil => simp at hM0
      | cons x M => exact Option.some.inj hM0
    refine ⟨_, rfl, a, rs, _, _, rfl, rfl, SqL.of h0, atI_nat (j := 0) hx0, ?_⟩
    rw [e0]
    refine ⟨a0, es0, rfl, .inl (SqL.of hb0), _, rfl, _, _, rfl, rfl, _, rfl, ?_⟩
    unfold isM at q
    rw [eh, decide_eq_true c1, decide_eq_true c2] at q
    by_cases c3 : 2 ≤ row0.length
    case neg =>
      refine ifF (decide_eq_false (by omega)) ⟨_, rfl, ifT rfl ?_⟩
      have z := q _ g0
      rw [decide_eq_false c3] at z
      exact z
    refine ifT (decide_eq_true (by omega)) ⟨_, _, rfl, rfl, _, rfl, ?_⟩
    by_cases c4 : row0.length ≤ 4
    case neg =>
      refine ifT (by rw [decide_eq_false (show ¬ (es0.length : Int) ≤ 4 by omega)]; rfl) ?_
      have z := q _ g0
      rw [decide_eq_true c3, decide_eq_false c4] at z
      exact z
    refine ifF (by rw [decide_eq_true (show (es0.length : Int) ≤ 4 by omega)]; rfl) ?_
    rw [decide_eq_true c3, decide_eq_true c4] at q
    have q : ∀ H', Gr mu0 F H F H' → Q (.bl (M.all (fun r => decide (r.length = row0.length)) && M.all (fun r => r.all fun e => isE M.length row0.length e.l))) H' := fun H' g => by
      have z := q H' g
      rw [Bool.and_self, Bool.and_self, Bool.and_self, Bool.true_and] at z
      exact z
    refine ⟨_, rfl, a, rfl, ⟨_, SqL.of h0⟩, fun D nD => lc_list (K := K) (a := a) (xs := rs) (fun i G => Gr mu0 F H F G ∧ H D = none ∧ G D = some (.lst (((M.take i).map fun r => decide (r.length = row0.length)).map V.bl))) ⟨g0.own nD, nD, upd_same⟩ (fun i G _ p => SqL.of (p.1.fh _ _ ha)) ?_ ?_⟩
    · rintro i x G hi ⟨gG, nH, hD⟩
      obtain ⟨row, hMi, b, es, rfl, hb, hes⟩ := hrs.get' hi
      have il : i < rs.length := (List.getElem?_eq_some_iff.mp hi).1
      refine ⟨rfl, yes ⟨_, rfl, b, es, rfl, .inl (SqL.of (gG.fh _ _ hb)), _, rfl, rfl, _, hD, by rw [List.length_map, List.length_map, List.length_take]; exact lt_size (by omega), ?_⟩⟩
      have e : (V.bl (decide (V.int (es.length : Int) = V.int (es0.length : Int)))) = V.bl (decide (row.length = row0.length)) := by
        rw [show es.length = row.length from hes.1, ls0]
        congr 1
        exact decide_eq_decide.mpr ⟨fun z => by have := V.int.inj z; omega, fun z => by rw [z]⟩
      rw [e, mt2 (f := fun r : List GE => decide (r.length = row0.length)) hMi]
      exact ⟨gG.set (ne_of_none' sF nH) (.inl nH), nH, upd_same⟩
    rintro G ⟨gG, nH, hD⟩
    rw [lr, List.take_length] at hD
    refine ⟨D, _, rfl, SqL.of hD, _, rfl, ?_⟩
    rw [all_id]
    cases c5 : M.all (fun r => decide (r.length = row0.length)) with
    | false =>
      refine ifT rfl ?_
      have z := q _ gG
      rw [c5] at z
      exact z
    | true =>
      refine ifF rfl ?_
      rw [c5] at q
      have rl : ∀ row ∈ M, row.length ≤ 4 := fun row m => by
        have := of_decide_eq_true (List.all_eq_true.mp c5 row m)
        omega
      refine ⟨_, rfl, a, rfl, ⟨_, SqL.of (gG.fh _ _ ha)⟩, fun D1 nD1 => lc_list (K := K) (a := a) (xs := rs) (fun i G1 => Gr mu0 F H F G1 ∧ H D1 = none ∧ G1 D1 = some (.lst (((M.take i).map fun r => r.all fun e => isE M.length row0.length e.l).map V.bl))) ⟨gG.own nD1, gG.th _ nD1, upd_same⟩ (fun i G1 _ p => SqL.of (p.1.fh _ _ ha)) ?_ ?_⟩
      · rintro i x G1 hi ⟨gG1, nH1, hD1⟩
        obtain ⟨row, hMi, b, es, rfl, hb, hes⟩ := hrs.get' hi
        have l4 := rl row (List.mem_of_getElem? hMi)
        have il : i < rs.length := (List.getElem?_eq_some_iff.mp hi).1
        refine ⟨rfl, yes ⟨_, rfl, b, rfl, ⟨_, SqL.of (gG1.fh _ _ hb)⟩, fun D2 nD2 => lc_list (K := K) (a := b) (xs := es) (fun j G2 => Gr mu0 F H F G2 ∧ H D2 = none ∧ D1 ≠ D2 ∧ G2 D1 = some (.lst (((M.take i).map fun r => r.all fun e => isE M.length row0.length e.l).map V.bl)) ∧ G2 D2 = some (.lst (((row.take j).map fun e => isE M.length row0.length e.l).map V.bl)))
          ⟨gG1.own nD2, gG1.th _ nD2, ne_of_none hD1 nD2, by rw [upd_ne (ne_of_none hD1 nD2)]; exact hD1, upd_same⟩ (fun j G2 _ p => SqL.of (p.1.fh _ _ hb)) ?_ ?_⟩⟩
        · rintro j y G2 hj ⟨gG2, nH2, d12, h1, h2⟩
          obtain ⟨e, hej, hye⟩ := hes.get' hj
          have jl : j < es.length := (List.getElem?_eq_some_iff.mp hj).1
          have le : es.length = row.length := hes.1
          refine ⟨rfl, yes ⟨_, rfl, _, rfl, _, rfl, F, y, e, M.length, row0.length, ?_, gG2.fh, hye, fun G3 g3 => ?_⟩⟩
          · rw [lr, ls0]; rfl
          · have gH3 := gG2.trans g3
            refine ⟨_, g3.fr _ _ h2 (fun z => z), by rw [List.length_map, List.length_map, List.length_take]; exact lt_size (by omega), ?_⟩
            rw [mt2 (f := fun e : GE => isE M.length row0.length e.l) hej]
            exact ⟨gH3.set (sF.free nH2) (.inl nH2), nH2, d12, by rw [upd_ne d12]; exact g3.fr _ _ h1 (fun z => z), upd_same⟩
        · rintro G2 ⟨gG2, nH2, d12, h1, h2⟩
          rw [hes.1, List.take_length] at h2
          refine ⟨D2, _, rfl, SqL.of h2, ?_⟩
          refine ⟨_, h1, by rw [List.length_map, List.length_map, List.length_take]; exact lt_size (by omega), ?_⟩
          rw [all_id, mt2 (f := fun r : List GE => r.all fun e => isE M.length row0.length e.l) hMi]
          exact ⟨gG2.set (sF.free nH1) (.inl nH1), nH1, upd_same⟩
      · rintro G1 ⟨gG1, nH1, hD1⟩
        rw [lr, List.take_length] at hD1
        refine ⟨D1, _, rfl, SqL.of hD1, ?_⟩
        rw [all_id]
        exact q _ gG1
/-- must_machine: what is none is refused with NoMachine -/
def sp_mustX (C : Addr) : Sp := fun vs H Q E => ∃ (F : Hp) (v : V) (M : GM), vs = [v] ∧ Same F H ∧ Is F v M ∧ (isM M = true → ∀ H', Gr mu0 F H F H' → Q .non H') ∧ (isM M = false → ∀ H', Gr mu0 F H F H' → E (.ref C) none H')
theorem okx_must_machine (t : Tx K mg) : FnOk P w K mg base (L2.CX P w) 3 t.a_must_machine t.fd_must_machine ["machine"] (sp_mustX t.C_NoMachine) := by
  refine t.F_must_machine.okX sc_must_machine (fun vs H Q E h => ?_) (fun cdv A outer s H vs Q E hr h => ?_)
  · obtain ⟨F, v, M, rfl, _⟩ := h
    rfl
  · obtain ⟨F, v, M, rfl, sF, hv, q1, q2⟩ := h
    refine ⟨_, (pss_one (ps_if (pt_not (pt_val (pe_call (ok_is_machine t) (hr.mono (by decide)) (by rfl) t.m_is_machine t.F_is_machine.kp t.b_is_machine .nil pass0 (pa_cons (pv 0) pa_nil)))) (pss_one (ps_raise rfl (takes_of rfl rfl rfl rfl) (pmk_own PySem.F.excBase_ValueError t.x_NoMachine t.m_NoMachine t.k_NoMachine (raises_own t.b_NoMachine t.t_NoMachine) (by rfl)))) pss_nil)), ?_⟩
    refine ⟨_, rfl, F, v, M, rfl, sF, hv, fun H' g => ⟨_, rfl, ?_⟩⟩
    cases e : isM M with
    | true => exact ifF rfl (q1 e H' g)
    | false => exact ifT rfl (q2 e H' g)
/-! ### machines as lists of lists of tuples -/
def entL : Ent → GE
  | .emp => ⟨[]⟩
  | .go p w r => ⟨[p, w, r]⟩
def gm (M : Mach) : GM := M.map fun r => r.map entL
theorem entL_is {F : Hp} {v : V} {e : Ent} (h : Is F v e) : Is F v (entL e) := by
  obtain ⟨a, rfl, h⟩ := h
  cases e with
  | emp => exact ⟨a, [], rfl, h, All2.nil⟩
  | go p w r => exact ⟨a, _, rfl, h, all_intsT [p, w, r]⟩
theorem all2_map {α β γ : Type} {r : α → β → Prop} {s : α → γ → Prop} {f : β → γ} (h : ∀ x y, r x y → s x (f y)) {xs : List α} {ys : List β} (a : All2 r xs ys) : All2 s xs (ys.map f) :=
  ⟨by rw [List.length_map]; exact a.1, fun i x y h1 h2 => by
    rw [List.getElem?_map] at h2
    obtain ⟨z, hz, rfl⟩ := Option.map_eq_some_iff.mp h2
    exact h x z (a.2 i x z h1 hz)⟩
theorem gm_is {F : Hp} {v : V} {M : Mach} (h : Is F v M) : Is F v (gm M) := by
  obtain ⟨a, xs, rfl, h1, h2⟩ := h
  refine ⟨a, xs, rfl, h1, all2_map (fun x y z => ?_) h2⟩
  obtain ⟨b, ys, rfl, h3, h4⟩ := z
  exact ⟨b, ys, rfl, h3, all2_map (fun _ _ z => entL_is z) h4⟩
/-! ### machines that are machines -/
structure EOk (R S : Nat) (e : Ent) : Prop where
  ok : ∀ p w r, e = .go p w r → (0 ≤ p ∧ p < S) ∧ (w = -1 ∨ w = 1) ∧ 0 ≤ r ∧ r < R
structure MOk (M : Mach) (R S : Nat) : Prop where
  r1 : 1 ≤ R
  r4 : R ≤ 4
  s2 : 2 ≤ S
  s4 : S ≤ 4
  len : M.length = R
  row : ∀ r ∈ M, r.length = S
  ent : ∀ r ∈ M, ∀ e ∈ r, EOk R S e
/-! ### must_machine lets machines by (of the general is_machine) -/
theorem isM_gm {M : Mach} {R S : Nat} (h : MOk M R S) : isM (gm M) = true := by
  have lM : (gm M).length = R := by unfold gm; rw [List.length_map]; exact h.len
  have hd : ((gm M).headD []).length = S := by
    cases M with
    | nil =>
      have h1 := h.len
      have h2 := h.r1
      have h1 : 0 = R := h1
      omega
    | cons r0 rest =>
      show (r0.map entL).length = S
      rw [List.length_map]
      exact h.row r0 List.mem_cons_self
  unfold isM
  rw [lM, hd, decide_eq_true h.r1, decide_eq_true h.r4, decide_eq_true h.s2, decide_eq_true h.s4]
  have a1 : ((gm M).all fun r => decide (r.length = S)) = true := List.all_eq_true.mpr fun r m => by
    obtain ⟨r0, m0, rfl⟩ := List.mem_map.mp m
    rw [List.length_map]
    exact decide_eq_true (h.row r0 m0)
  have a2 : ((gm M).all fun r => r.all fun e => isE R S e.l) = true := List.all_eq_true.mpr fun r m => List.all_eq_true.mpr fun e k => by
    obtain ⟨r0, m0, rfl⟩ := List.mem_map.mp m
    obtain ⟨e0, k0, rfl⟩ := List.mem_map.mp k
    have eo := h.ent r0 m0 e0 k0
    cases e0 with
    | emp => rfl
    | go p w r =>
      obtain ⟨⟨o1, o2⟩, o3, o4, o5⟩ := eo.ok _ _ _ rfl
      show (decide (0 ≤ p) && decide (p < (S : Int)) && (decide (w = -1) || decide (w = 1)) && decide (0 ≤ r) && decide (r < (R : Int))) = true
      rw [decide_eq_true o1, decide_eq_true o2, decide_eq_true o4, decide_eq_true o5]
      rcases o3 with o3 | o3 <;> (rw [o3]; rfl)
  rw [a1, a2]; rfl
def sp_must_machine : Sp := fun vs H Q _ => ∃ (F : Hp) (v : V) (M : Mach) (R S : Nat), vs = [v] ∧ Same F H ∧ Is F v M ∧ MOk M R S ∧ ∀ H', Gr mu0 F H F H' → Q .non H'
theorem ok_must_machine (t : Tx K mg) : FnOk P w K mg base CX0 3 t.a_must_machine t.fd_must_machine ["machine"] sp_must_machine := by
  refine t.F_must_machine.ok sc_must_machine (fun vs H Q E h => ?_) (fun cdv A outer s H vs Q E hr h => ?_)
  · obtain ⟨F, v, M, R, S, rfl, _⟩ := h
    rfl
  · obtain ⟨F, v, M, R, S, rfl, sF, hv, hM, q⟩ := h
    refine ⟨_, (pss_one (ps_if (pt_not (pt_val (pe_call (ok_is_machine t) (hr.mono (by decide)) (by rfl) t.m_is_machine t.F_is_machine.kp t.b_is_machine .nil pass0 (pa_cons (pv 0) pa_nil)))) (pss_one ps_never) pss_nil)), ?_⟩
    refine ⟨_, rfl, F, v, gm M, rfl, sF, gm_is hv, fun H' g => ⟨_, rfl, ?_⟩⟩
    rw [isM_gm hM]
    exact ifF rfl (q _ g)
/-! ### machines, runs drawn -/
theorem at2 {a b : V} {c : Bool} : atI [a, b] (if c then 1 else 0) = some (if c then b else a) := by cases c <;> rfl
def sp_L_entry : Sp := fun vs H Q _ => ∃ (F : Hp) (p : Addr) (R S few b row : Int), vs = [.ref p, .int R, .int S, .int row, .int few] ∧ Same F H ∧ F p = none ∧ PuAt H p b ∧ b ≤ 800000 ∧ 0 < R ∧ R ≤ 4 ∧ 0 < S ∧ S ≤ 4 ∧ 0 ≤ row ∧ row < R ∧ 0 < few ∧ few ≤ 100 ∧
  ∀ (F' H' : Hp) (v : V) (e : Ent), Gr (muP p) F H F' H' → PuAt H' p (b + 10) → Is F' v e → (∀ p w r, e = .go p w r → (0 ≤ p ∧ p < S) ∧ (w = -1 ∨ w = 1) ∧ 0 ≤ r ∧ r < R) → Q v H'
theorem ok_L_entry (t : Tx K mg) : FnOk P w K mg base CX0 3 t.a_L_entry t.fd_L_entry ["_law_purse_here", "_law_rows", "_law_signs", "_law_row", "_law_few"] sp_L_entry := by
  refine t.F_L_entry.ok sc_L_entry (fun vs H Q E h => ?_) (fun cdv A outer s H vs Q E hr h => ?_)
  · obtain ⟨F, p, R, S, few, b, row, rfl, _⟩ := h
    rfl
  · obtain ⟨F, p, R, S, few, b, row, rfl, sF, fp, hp, hb, R0, R4, S0, S4, r0, r1, f0, f1, q⟩ := h
    refine ⟨_, (pss_cons (ps_set (i := 5) sc_L_entry.nd rfl (by first | exact Or.inl rfl | exact Or.inr rfl) (pe_call (ok_L_draw t) (hr.mono (by decide)) (by rfl) t.m_L_draw t.F_L_draw.kp t.b_L_draw .nil pass0 (pa_cons (pv 0) (pa_cons (pv 2) pa_nil))))
      (pss_cons (ps_set (i := 6) sc_L_entry.nd rfl (by first | exact Or.inl rfl | exact Or.inr rfl) (pe_op op_sub (pe_op op_mul pe_int (pe_call (ok_L_draw t) (hr.mono (by decide)) (by rfl) t.m_L_draw t.F_L_draw.kp t.b_L_draw .nil pass0 (pa_cons (pv 0) (pa_cons pe_int pa_nil)))) pe_int))
      (pss_cons (ps_set (i := 7) sc_L_entry.nd rfl (by first | exact Or.inl rfl | exact Or.inr rfl) (pe_ix ix_list (pe_lst (pa_cons (pe_call (ok_L_draw t) (hr.mono (by decide)) (by rfl) t.m_L_draw t.F_L_draw.kp t.b_L_draw .nil pass0 (pa_cons (pv 0) (pa_cons (pv 1) pa_nil))) (pa_cons (pv 3) pa_nil))) (pe_callTy (T := "int") call_int1 (by rfl) t.n_int (by decide +kernel) (pa_cons (pe_cmpR op_eq (pe_call (ok_L_draw t) (hr.mono (by decide)) (by rfl) t.m_L_draw t.F_L_draw.kp t.b_L_draw .nil pass0 (pa_cons (pv 0) (pa_cons pe_int pa_nil))) pe_int (nomark _)) pa_nil)) (fun _ _ => rfl)))
      (pss_one (ps_ret (pe_ix ix_list (pe_lst (pa_cons (pe_tup (pa_cons (pv 5) (pa_cons (pv 6) (pa_cons (pv 7) pa_nil)))) (pa_cons (pe_tup pa_nil) pa_nil))) (pe_callTy (T := "int") call_int1 (by rfl) t.n_int (by decide +kernel) (pa_cons (pe_cmpR op_eq (pe_call (ok_L_draw t) (hr.mono (by decide)) (by rfl) t.m_L_draw t.F_L_draw.kp t.b_L_draw .nil pass0 (pa_cons (pv 0) (pa_cons (pv 4) pa_nil))) pe_int (nomark _)) pa_nil)) (fun _ _ => rfl))))))), ?_⟩
    refine ⟨_, rfl, _, rfl, F, p, S, b, rfl, sF, fp, hp, by omega, S0, by omega, fun d1 H1 d10 d11 g1 hp1 => ?_⟩
    refine ⟨_, rfl, F, p, 2, _, rfl, g1.fh, fp, hp1, by omega, by decide, by decide, fun d2 H2 d20 d21 g2 hp2 => ⟨_, _, rfl, rfl, .inl ⟨by decide, by decide⟩, _, _, rfl, rfl, ?_⟩⟩
    refine ⟨_, rfl, _, rfl, F, p, R, _, rfl, g2.fh, fp, hp2, by omega, R0, by omega, fun d3 H3 d30 d31 g3 hp3 => ⟨_, rfl, two_le, fun l nl => ?_⟩⟩
    have g4 := ((g1.trans g2).trans g3).own (o := .lst [.int d3, .int row]) nl
    have hl : (upd H3 l (.lst [.int d3, .int row])) l = some (.lst [.int d3, .int row]) := upd_same
    have hp4 := hp3.ln (o := .lst [.int d3, .int row]) nl
    have pl := hp3.ne nl
    generalize upd H3 l (.lst [.int d3, .int row]) = H4 at g4 hl hp4
    refine ⟨_, rfl, F, p, 3, _, rfl, g4.fh, fp, hp4, by omega, by decide, by decide, fun d4 H5 d40 d41 g5 hp5 => ⟨rfl, .inr ⟨_, rfl, ?_⟩⟩⟩
    have hl5 := g5.fr _ _ hl (Ne.symm pl)
    refine ⟨l, _, _, _, rfl, rfl, SqL.of hl5, at2, ?_⟩
    have et : ∃ r : Int, (if decide (V.int d4 = V.int 1) = true then V.int row else V.int d3) = V.int r ∧ 0 ≤ r ∧ r < R := by
      split
      · exact ⟨_, rfl, r0, r1⟩
      · exact ⟨_, rfl, d30, d31⟩
    obtain ⟨r, er, r0', r1'⟩ := et
    rw [er]
    have g6 := g4.trans g5
    refine ⟨_, rfl, _, rfl, _, rfl, three_le, fun q0 n0 => ⟨nil_le, fun q1 n1 => ⟨two_le, fun l2 nl2 => ?_⟩⟩⟩
    have g7 := (g6.new (o := .tup [.int d1, .int (2 * d2 - 1), .int r]) n0).new (o := .tup []) n1
    have hp7 := (hp5.ln (o := .tup [.int d1, .int (2 * d2 - 1), .int r]) n0).ln (o := .tup []) n1
    have i0 : Is (upd (upd F q0 (.tup [.int d1, .int (2 * d2 - 1), .int r])) q1 (.tup [])) (.ref q0) (Ent.go d1 (2 * d2 - 1) r) := ⟨q0, rfl, by rw [upd_ne (ne_of_none upd_same n1)]; exact upd_same⟩
    have i1 : Is (upd (upd F q0 (.tup [.int d1, .int (2 * d2 - 1), .int r])) q1 (.tup [])) (.ref q1) Ent.emp := ⟨q1, rfl, upd_same⟩
    have fp7 := hp.f fp g7
    generalize upd (upd F q0 (.tup [.int d1, .int (2 * d2 - 1), .int r])) q1 (.tup []) = F7 at g7 i0 i1 fp7
    generalize upd (upd H5 q0 (.tup [.int d1, .int (2 * d2 - 1), .int r])) q1 (.tup []) = H7 at g7 hp7 nl2
    have g8 := g7.own (o := .lst [.ref q0, .ref q1]) nl2
    have hl8 : (upd H7 l2 (.lst [.ref q0, .ref q1])) l2 = some (.lst [.ref q0, .ref q1]) := upd_same
    have hp8 := hp7.ln (o := .lst [.ref q0, .ref q1]) nl2
    have pl2 := hp7.ne nl2
    generalize upd H7 l2 (.lst [.ref q0, .ref q1]) = H8 at g8 hl8 hp8
    refine ⟨_, rfl, _, rfl, F7, p, few, _, rfl, g8.fh, fp7, hp8, by omega, f0, by omega, fun d5 H9 d50 d51 g9 hp9 => ⟨rfl, .inr ⟨_, rfl, ?_⟩⟩⟩
    refine ⟨l2, _, _, _, rfl, rfl, SqL.of (g9.fr _ _ hl8 (Ne.symm pl2)), at2, ?_⟩
    by_cases c : decide (V.int d5 = V.int 1) = true
    · rw [if_pos c]
      exact q F7 H9 _ Ent.emp (g8.trans g9) (hp9.le (by omega)) i1 (fun p w r z => nomatch z)
    · rw [if_neg c]
      refine q F7 H9 _ _ (g8.trans g9) (hp9.le (by omega)) i0 fun p w r' z => ?_
      cases z
      exact ⟨⟨d10, d11⟩, by omega, r0', r1'⟩
theorem Ow.frz' {H F H1 : Hp} {q r : Addr} {o u : HO} (w : Ow H F H1 q o) (e : q ≠ r) : Ow H (upd F r u) H1 q o := ⟨w.n, by rw [upd_ne e]; exact w.f, w.h⟩
theorem Ow.neq {H F H1 : Hp} {q r : Addr} {o : HO} (w : Ow H F H1 q o) {u : HO} (h : H r = some u) : q ≠ r := fun e => by rw [← e, w.n] at h; cases h
def sp_L_machine : Sp := fun vs H Q _ => ∃ (F : Hp) (p : Addr) (b : Int), vs = [.ref p] ∧ Same F H ∧ F p = none ∧ PuAt H p b ∧ b ≤ 700000 ∧
  ∀ (F' H' : Hp) (v : V) (M : Mach) (R S : Nat), Gr (muP p) F H F' H' → PuAt H' p (b + 1000) → MOk M R S → Is F' v M → Q v H'
theorem ok_L_machine (t : Tx K mg) : FnOk P w K mg base CX0 4 t.a_L_machine t.fd_L_machine ["_law_purse_here"] sp_L_machine := by
  refine t.F_L_machine.ok sc_L_machine (fun vs H Q E h => ?_) (fun cdv A outer s H vs Q E hr h => ?_)
  · obtain ⟨F, p, b, rfl, _⟩ := h
    rfl
  · obtain ⟨F, p, b, rfl, sF, fp, hp, hb, q⟩ := h
    refine ⟨_, (pss_cons (ps_set (i := 1) sc_L_machine.nd rfl (by first | exact Or.inl rfl | exact Or.inr rfl) (pe_op op_add pe_int (pe_call (ok_L_draw t) (hr.mono (by decide)) (by rfl) t.m_L_draw t.F_L_draw.kp t.b_L_draw .nil pass0 (pa_cons (pv 0) (pa_cons pe_int pa_nil)))))
      (pss_cons (ps_set (i := 2) sc_L_machine.nd rfl (by first | exact Or.inl rfl | exact Or.inr rfl) (pe_op op_add pe_int (pe_call (ok_L_draw t) (hr.mono (by decide)) (by rfl) t.m_L_draw t.F_L_draw.kp t.b_L_draw .nil pass0 (pa_cons (pv 0) (pa_cons pe_int pa_nil)))))
      (pss_cons (ps_set (i := 3) sc_L_machine.nd rfl (by first | exact Or.inl rfl | exact Or.inr rfl) (pe_ix ix_list (pe_lst (pa_cons pe_int (pa_cons pe_int (pa_cons pe_int (pa_cons pe_int pa_nil))))) (pe_call (ok_L_draw t) (hr.mono (by decide)) (by rfl) t.m_L_draw t.F_L_draw.kp t.b_L_draw .nil pass0 (pa_cons (pv 0) (pa_cons pe_int pa_nil))) (fun _ _ => rfl)))
      (pss_one (ps_ret (pe_lc (own := [("_law_row", 5)]) (g := gName 5) (tt := tYes) rfl sc_L_machine.nd (pi_range1 (by rfl) t.n_range (pa_cons (pv 1) pa_nil)) (blkOk_by (N := N_L_machine) (sc := defScope s_L_machine) (by decide +kernel)) (fun _ _ _ _ _ => (pg_name (i := 5) sc_L_machine.nd rfl (by first | exact Or.inl rfl | exact Or.inr rfl))) (fun _ _ _ _ _ => pts_nil) (fun _ _ _ _ _ => (pe_lc (own := [("_law_sign", 4)]) (g := gName 4) (tt := tYes) rfl sc_L_machine.nd (pi_range1 (by rfl) t.n_range (pa_cons (pv 2) pa_nil)) (blkOk_by (N := N_L_machine) (sc := { kind := PySem.ScopeKind.function, names := [(PySem.Str.ofString ".0", PySem.NameKind.local), (PySem.Str.ofString "_law_row", PySem.NameKind.cell), (PySem.Str.ofString "range", PySem.NameKind.globalImplicit), (PySem.Str.ofString "_law_few", PySem.NameKind.cell), (PySem.Str.ofString "_law_purse_here", PySem.NameKind.cell), (PySem.Str.ofString "_law_rows", PySem.NameKind.cell), (PySem.Str.ofString "_law_signs", PySem.NameKind.cell)], isGenerator := false, isCoroutine := false }) (by decide +kernel)) (fun _ _ _ _ _ => (pg_name (i := 4) sc_L_machine.nd rfl (by first | exact Or.inl rfl | exact Or.inr rfl))) (fun _ _ _ _ _ => pts_nil) (fun _ _ _ _ _ => (pe_call (ok_L_entry t) (hr.mono (by decide)) (by rfl) t.m_L_entry t.F_L_entry.kp t.b_L_entry .nil pass0 (pa_cons (pv 0) (pa_cons (pv 1) (pa_cons (pv 2) (pa_cons (pv 5) (pa_cons (pv 3) pa_nil))))))))))))))), ?_⟩
    obtain ⟨po, hpo⟩ := hp.ex
    refine ⟨_, rfl, F, p, 4, b, rfl, sF, fp, hp, by omega, by decide, by decide, fun d1 H1 d10 d11 g1 hp1 => ⟨_, _, rfl, rfl, ?_⟩⟩
    refine ⟨_, rfl, F, p, 3, _, rfl, g1.fh, fp, hp1, by omega, by decide, by decide, fun d2 H2 d20 d21 g2 hp2 => ⟨_, _, rfl, rfl, ?_⟩⟩
    refine ⟨by show 4 ≤ sizeLine; decide, fun l nl => ?_⟩
    have g3 := (g1.trans g2).own (o := .lst [.int 4, .int 9, .int 20, .int 60]) nl
    have hl : (upd H2 l (.lst [.int 4, .int 9, .int 20, .int 60])) l = some (.lst [.int 4, .int 9, .int 20, .int 60]) := upd_same
    have hp3 := hp2.ln (o := .lst [.int 4, .int 9, .int 20, .int 60]) nl
    have pl := hp2.ne nl
    generalize upd H2 l (.lst [.int 4, .int 9, .int 20, .int 60]) = H3 at g3 hl hp3
    refine ⟨_, rfl, F, p, 4, _, rfl, g3.fh, fp, hp3, by omega, by decide, by decide, fun d3 H4 d30 d31 g4 hp4 => ?_⟩
    have ef : ∃ f : Int, atI [V.int 4, V.int 9, V.int 20, V.int 60] d3 = some (.int f) ∧ 0 < f ∧ f ≤ 100 := by
      rcases (by omega : d3 = 0 ∨ d3 = 1 ∨ d3 = 2 ∨ d3 = 3) with rfl | rfl | rfl | rfl <;> exact ⟨_, rfl, by decide, by decide⟩
    obtain ⟨few, ef, f0, f1⟩ := ef
    refine ⟨l, _, _, _, rfl, rfl, SqL.of (g4.fr _ _ hl (Ne.symm pl)), ef, ?_⟩
    have g5 := g3.trans g4
    have eR : ((1 + d1).toNat : Int) = 1 + d1 := Int.toNat_of_nonneg (by omega)
    have eS : ((2 + d2).toNat : Int) = 2 + d2 := Int.toNat_of_nonneg (by omega)
    generalize hR : (1 + d1).toNat = R at eR
    generalize hS : (2 + d2).toNat = S at eS
    dsimp only
    rw [← eR, ← eS]
    refine ⟨_, rfl, (R : Int), rfl, by omega, by omega, fun D nD => ?_⟩
    have pD := hp4.ne nD
    refine lc_range (lo := 0) (n := ((R : Int)).toNat) (fun i G => ∃ (F1 : Hp) (rs : List V) (M : Mach) (b1 : Int), Gr (muP p) F H F1 G ∧ PuAt G p b1 ∧ b1 ≤ b + 8 + 40 * i ∧ Ow H F1 G D (.lst rs) ∧ IsAll F1 rs M ∧ M.length = i ∧ ∀ row ∈ M, row.length = S ∧ ∀ e ∈ row, EOk R S e)
      ⟨F, [], [], _, g5.own nD, hp4.ln nD, by omega, Ow.mk1 g5 nD, All2.nil, rfl, fun row z => nomatch z⟩ ?_ ?_
    · rintro i G hi ⟨F1, rs, M, b1, g, hpG, hb1, w, al, lM, hM⟩
      have iR : i < R := by omega
      refine ⟨rfl, yes ⟨_, rfl, (S : Int), rfl, by omega, by omega, fun r nr => ?_⟩⟩
      have pr := hpG.ne nr
      have Dr : D ≠ r := w.ne nr
      refine lc_range (lo := 0) (n := ((S : Int)).toNat) (fun j G => ∃ (F2 : Hp) (es : List V) (row : List Ent) (b2 : Int), Gr (muP p) F H F2 G ∧ PuAt G p b2 ∧ b2 ≤ b1 + 10 * j ∧ Ow H F2 G D (.lst rs) ∧ Ow H F2 G r (.lst es) ∧ IsAll F2 rs M ∧ IsAll F2 es row ∧ row.length = j ∧ ∀ e ∈ row, EOk R S e)
        ⟨F1, [], [], b1, g.own nr, hpG.ln nr, by omega, w.own nr, Ow.mk1 g nr, al, All2.nil, rfl, fun e z => nomatch z⟩ ?_ ?_
      · rintro j G hj ⟨F2, es, row, b2, g, hpG, hb2, w, wr, al, ae, lr, hrow⟩
        have jS : j < S := by omega
        refine ⟨rfl, yes ⟨_, rfl, _, rfl, _, rfl, _, rfl, _, rfl, F2, p, (R : Int), (S : Int), few, b2, (0 + i : Int), rfl, g.fh, hp.f fp g, hpG, by omega, by omega, by omega, by omega, by omega, by omega, by omega, f0, f1, fun F3 G3 v e g3 hp3 ie eo => ?_⟩⟩
        have w3 := w.call g3 (Ne.symm pD)
        have wr3 := wr.call g3 (Ne.symm pr)
        refine ⟨es, wr3.h, by rw [ae.1, lr]; exact lt_size (by omega), F3, es ++ [v], row ++ [e], _, (g.trans g3).set wr3.f (.inl wr3.n), hp3.off pr, by omega, w3.other Dr, wr3.set, al.up g3.ff, (ae.up g3.ff).app (All2.one ie), by rw [List.length_append, lr]; rfl, fun e' z => ?_⟩
        rcases List.mem_append.mp z with z | z
        · exact hrow e' z
        · rw [List.mem_singleton.mp z]; exact ⟨eo⟩
      · rintro G ⟨F2, es, row, b2, g, hpG, hb2, w, wr, al, ae, lr, hrow⟩
        have lr : row.length = S := by rw [lr]; exact Int.toNat_natCast S
        have g2 := g.frz wr.h wr.n wr.f
        have s2 : Same F2 (upd F2 r (.lst es)) := sm_new (Same.refl F2) wr.f
        have w2 := w.frz' (u := .lst es) Dr
        refine ⟨rs, w2.h, by rw [al.1, lM]; exact lt_size (by omega), upd F2 r (.lst es), rs ++ [.ref r], M ++ [row], b2, g2.set w2.f (.inl w2.n), hpG.off pD, by omega, w2.set, (al.up s2).app (All2.one ⟨r, es, rfl, upd_same, ae.up s2⟩), by rw [List.length_append, lM]; rfl, fun row' z => ?_⟩
        rcases List.mem_append.mp z with z | z
        · exact hM row' z
        · rw [List.mem_singleton.mp z]; exact ⟨lr, hrow⟩
    · rintro G ⟨F1, rs, M, b1, g, hpG, hb1, w, al, lM, hM⟩
      have lM : M.length = R := by rw [lM]; exact Int.toNat_natCast R
      have hb1 : b1 ≤ b + 8 + 40 * R := by rw [show ((R : Int).toNat : Int) = R from by rw [Int.toNat_natCast]] at hb1; exact hb1
      refine q (upd F1 D (.lst rs)) G _ M R S (g.frz w.h w.n w.f) (hpG.le (by omega)) ⟨by omega, by omega, by omega, by omega, lM, fun r z => (hM r z).1, fun r z => (hM r z).2⟩ ⟨D, rs, rfl, upd_same, al.up (sm_new (Same.refl F1) w.f)⟩
abbrev Rs := T3 (List PI) Int (List PI)
def OkS (S : Nat) (l : List PI) : Prop := ∀ q ∈ l, (0 ≤ q.a ∧ q.a < S) ∧ 1 ≤ q.b
theorem OkS.nil {S : Nat} : OkS S [] := fun q z => nomatch z
theorem OkS.rev {S : Nat} {l : List PI} (h : OkS S l) : OkS S l.reverse := fun q z => h q (List.mem_reverse.mp z)
theorem All2.rev {α β : Type} {r : α → β → Prop} : ∀ {xs : List α} {ys : List β}, All2 r xs ys → All2 r xs.reverse ys.reverse
  | [], [], _ => All2.nil
  | [], y :: ys, h => by have := h.1; simp at this
  | x :: xs, [], h => by have := h.1; simp at this
  | x :: xs, y :: ys, h => by
    rw [List.reverse_cons, List.reverse_cons]
    exact (All2.rev (xs := xs) (ys := ys) ⟨by have := h.1; simpa using this, fun i a b p q => h.2 (i + 1) a b (by simpa using p) (by simpa using q)⟩).app (All2.one (h.2 0 x y rfl rfl))
def OkR (S : Nat) (x : Rs) : Prop := (OkS S x.a ∧ x.a.length ≤ 900) ∧ (0 ≤ x.b ∧ x.b < S) ∧ OkS S x.c ∧ x.c.length ≤ 900
/-! ### words -/
/-- a text that may stand in a datum -/
structure TStr where
  x : Str
  ok : PyData.strOk x = true
  deriving DecidableEq
instance : Dat TStr where
  rep := fun _ v d => v = .str d.x
  mono := fun _ h => h
  py := fun d => .str d.x
  dp := fun h => h ▸ .str _
  can := fun d => d.ok
  dep := 0
  depth := fun _ => Nat.le_refl _
  eqv := fun a b => by
    obtain ⟨a, _⟩ := a; obtain ⟨b, _⟩ := b
    simp [PyData.eqv]
/-! ### an entry -/
def entAt (M : Mach) (r s : Int) : Ent := (((M[r.toNat]?).getD [])[s.toNat]?).getD .emp
theorem ent_of {M : Mach} {R S : Nat} (h : MOk M R S) {r s : Int} (r0 : 0 ≤ r) (r1 : r < R) (s0 : 0 ≤ s) (s1 : s < S) : ∃ row, M[r.toNat]? = some row ∧ row[s.toNat]? = some (entAt M r s) ∧ EOk R S (entAt M r s) := by
  have hr : r.toNat < M.length := by rw [h.len]; omega
  have e1 : M[r.toNat]? = some M[r.toNat] := List.getElem?_eq_getElem hr
  have hs : s.toNat < (M[r.toNat]).length := by rw [h.row _ (List.getElem_mem hr)]; omega
  have e2 : (M[r.toNat])[s.toNat]? = some (M[r.toNat])[s.toNat] := List.getElem?_eq_getElem hs
  have e3 : entAt M r s = (M[r.toNat])[s.toNat] := by
    unfold entAt
    rw [e1]
    show ((M[r.toNat])[s.toNat]?).getD Ent.emp = _
    rw [e2]; rfl
  exact ⟨_, e1, by rw [e3]; exact e2, by rw [e3]; exact h.ent _ (List.getElem_mem hr) _ (List.getElem_mem hs)⟩
def tEnd : TStr := ⟨"end", by decide +kernel⟩
/-! ### out of a block -/
def tOut : TStr := ⟨"out", by decide +kernel⟩
def tStay : TStr := ⟨"stay", by decide +kernel⟩
/-! ### blocks, gone through (plain) -/
structure Bs where
  s : List Int
  p : Int
  r : Int
  deriving DecidableEq
inductive Bn where
  | nxt (b : Bs)
  | lv (w : TStr) (s : List Int) (r x d : Int)
def sgB (b : Bs) : Int := (b.s[b.p.toNat]?).getD 0
def bn (M : Mach) (b : Bs) : Bn := match entAt M b.r (sgB b) with
  | .emp => .lv tEnd b.s b.r b.p 0
  | .go pu wa to => if 0 ≤ b.p + wa ∧ b.p + wa < (b.s.length : Int) then .nxt ⟨b.s.set b.p.toNat pu, b.p + wa, to⟩ else .lv tOut (b.s.set b.p.toNat pu) to wa 1
theorem bn_emp {M : Mach} {b : Bs} (e : entAt M b.r (sgB b) = .emp) : bn M b = .lv tEnd b.s b.r b.p 0 := by
  unfold bn; rw [e]
theorem bn_go {M : Mach} {b : Bs} {pu wa to : Int} (e : entAt M b.r (sgB b) = .go pu wa to) (h : 0 ≤ b.p + wa ∧ b.p + wa < (b.s.length : Int)) : bn M b = .nxt ⟨b.s.set b.p.toNat pu, b.p + wa, to⟩ := by
  unfold bn; rw [e]; exact if_pos h
theorem bn_out {M : Mach} {b : Bs} {pu wa to : Int} (e : entAt M b.r (sgB b) = .go pu wa to) (h : ¬ (0 ≤ b.p + wa ∧ b.p + wa < (b.s.length : Int))) : bn M b = .lv tOut (b.s.set b.p.toNat pu) to wa 1 := by
  unfold bn; rw [e]; exact if_neg h
def tj (M : Mach) : Nat → Bs → Option Bs
  | 0, b => some b
  | n + 1, b => match bn M b with
    | .nxt c => tj M n c
    | .lv .. => none
inductive ThR where
  | stay
  | fin (w : TStr) (s : List Int) (r x n : Int)
  deriving DecidableEq
def bgo (M : Mach) : Nat → Bs → Int → ThR
  | 0, _, _ => .stay
  | n + 1, b, k => match bn M b with
    | .nxt c => bgo M n c (k + 1)
    | .lv w s r x d => .fin w s r x (k + d)
section
variable {M : Mach} {b c : Bs}
theorem tj_nxt {n : Nat} (e : bn M b = .nxt c) : tj M (n + 1) b = tj M n c := by
  show (match bn M b with | .nxt c => tj M n c | .lv .. => none) = _
  rw [e]
theorem tj_lv {n : Nat} {w s r x d} (e : bn M b = .lv w s r x d) : tj M (n + 1) b = none := by
  show (match bn M b with | .nxt c => tj M n c | .lv .. => none) = _
  rw [e]
theorem bgo_nxt {n : Nat} {k : Int} (e : bn M b = .nxt c) : bgo M (n + 1) b k = bgo M n c (k + 1) := by
  show (match bn M b with | .nxt c => bgo M n c (k + 1) | .lv w s r x d => .fin w s r x (k + d)) = _
  rw [e]
theorem bgo_lv {n : Nat} {k : Int} {w s r x d} (e : bn M b = .lv w s r x d) : bgo M (n + 1) b k = .fin w s r x (k + d) := by
  show (match bn M b with | .nxt c => bgo M n c (k + 1) | .lv w s r x d => .fin w s r x (k + d)) = _
  rw [e]
theorem tj_add (M : Mach) : ∀ (m n : Nat) (b : Bs), tj M (m + n) b = (tj M m b).bind (tj M n)
  | 0, n, b => by rw [Nat.zero_add]; rfl
  | m + 1, n, b => by
    rw [show m + 1 + n = (m + n) + 1 by omega]
    cases e : bn M b with
    | nxt c => rw [tj_nxt e, tj_nxt e]; exact tj_add M m n c
    | lv w s r x d => rw [tj_lv e, tj_lv e]; rfl
theorem tj_at {m n : Nat} {c : Bs} (h : tj M m b = some c) : tj M (m + n) b = tj M n c := by
  rw [tj_add, h]; rfl
theorem tj_le {m n : Nat} (l : m ≤ n) (h : tj M n b ≠ none) : tj M m b ≠ none := fun z => by
  obtain ⟨k, rfl⟩ := Nat.le.dest l
  rw [tj_add, z] at h
  exact h rfl
/-- it leaves behind i steps, from c -/
theorem bgo_of : ∀ (i n : Nat) (b : Bs) (k : Int) (c : Bs) (w : TStr) (s : List Int) (r x d : Int), tj M i b = some c → bn M c = .lv w s r x d → i < n → bgo M n b k = .fin w s r x (k + i + d)
  | 0, n + 1, b, k, c, w, s, r, x, d, h, e, _ => by
    cases h
    rw [bgo_lv e]; congr 1; omega
  | i + 1, n + 1, b, k, c, w, s, r, x, d, h, e, l => by
    cases eb : bn M b with
    | nxt b' =>
      rw [tj_nxt eb] at h
      rw [bgo_nxt eb, bgo_of i n b' (k + 1) c w s r x d h e (by omega)]
      congr 1; omega
    | lv w s r x d => rw [tj_lv eb] at h; cases h
theorem bgo_fin : ∀ (n : Nat) (b : Bs) (k : Int) (w : TStr) (s : List Int) (r x m : Int), bgo M n b k = .fin w s r x m → ∃ (i : Nat) (c : Bs) (d : Int), i < n ∧ tj M i b = some c ∧ bn M c = .lv w s r x d ∧ m = k + i + d
  | 0, b, k, w, s, r, x, m, h => by cases h
  | n + 1, b, k, w, s, r, x, m, h => by
    cases eb : bn M b with
    | nxt b' =>
      rw [bgo_nxt eb] at h
      obtain ⟨i, c, d, l, h1, h2, h3⟩ := bgo_fin n b' (k + 1) w s r x m h
      exact ⟨i + 1, c, d, by omega, by rw [tj_nxt eb]; exact h1, h2, by rw [h3]; omega⟩
    | lv w' s' r' x' d' =>
      rw [bgo_lv eb] at h
      cases h
      exact ⟨0, b, d', by omega, rfl, eb, by omega⟩
theorem bgo_stay : ∀ (n : Nat) (b : Bs) (k : Int), bgo M n b k = .stay → tj M n b ≠ none
  | 0, b, k, _ => fun z => nomatch z
  | n + 1, b, k, h => by
    cases eb : bn M b with
    | nxt b' =>
      rw [bgo_nxt eb] at h
      rw [tj_nxt eb]
      exact bgo_stay n b' _ h
    | lv w' s' r' x' d' => rw [bgo_lv eb] at h; cases h
/-- it never leaves -/
def NV (M : Mach) (b : Bs) : Prop := ∀ n, tj M n b ≠ none
theorem NV.fin {w s r x m} (h : NV M b) (n : Nat) (k : Int) : bgo M n b k ≠ .fin w s r x m := fun z => by
  obtain ⟨i, c, d, _, h1, h2, _⟩ := bgo_fin n b k w s r x m z
  refine h (i + 1) ?_
  rw [tj_at h1, tj_lv h2]
theorem NV.stay (h : NV M b) (n : Nat) (k : Int) : bgo M n b k = .stay := by
  cases e : bgo M n b k with
  | stay => rfl
  | fin w s r x m => exact absurd e (h.fin n k)
theorem NV.of {i : Nat} (h : tj M i b = some c) (z : NV M c) : NV M b := fun n => by
  refine tj_le (n := i + n) (by omega) ?_
  rw [tj_at h]; exact z n
theorem NV.cyc {d : Nat} (h : tj M d c = some c) (p : 0 < d) : NV M c := fun n => by
  have z : ∀ q, tj M (q * d) c = some c := fun q => by
    induction q with
    | zero => rw [Nat.zero_mul]; rfl
    | succ q ih => rw [Nat.succ_mul, tj_at ih, h]
  refine tj_le (n := n * d) (Nat.le_mul_of_pos_right n p) ?_
  rw [z]; exact fun e => nomatch e
theorem NV.two {i j : Nat} (l : i < j) (h : tj M i b = some c) (h' : tj M j b = some c) : NV M b := by
  refine NV.of h (NV.cyc (d := j - i) ?_ (by omega))
  rw [← tj_at (n := j - i) h, show i + (j - i) = j by omega]; exact h'
end
/-! ### how many there are -/
theorem pig : ∀ (n : Nat) (f : Nat → Nat), (∀ i, i ≤ n → f i < n) → ∃ i j, i < j ∧ j ≤ n ∧ f i = f j
  | 0, f, h => absurd (h 0 (Nat.le_refl 0)) (by omega)
  | n + 1, f, h => by
    by_cases e : ∃ i, i ≤ n ∧ f i = f (n + 1)
    · obtain ⟨i, l, e⟩ := e
      exact ⟨i, n + 1, by omega, Nat.le_refl _, e⟩
    · have e : ∀ i, i ≤ n → f i ≠ f (n + 1) := fun i l z => e ⟨i, l, z⟩
      have hl := h (n + 1) (Nat.le_refl _)
      obtain ⟨i, j, l, lj, q⟩ := pig n (fun i => if f i = n then f (n + 1) else f i) fun i l => by
        have h1 := h i (by omega)
        have h2 := e i l
        show (if f i = n then f (n + 1) else f i) < n
        split
        · omega
        · omega
      refine ⟨i, j, l, by omega, ?_⟩
      have ei := e i (by omega)
      have ej := e j lj
      have q : (if f i = n then f (n + 1) else f i) = (if f j = n then f (n + 1) else f j) := q
      split at q
      · split at q
        · omega
        · exact absurd q.symm ej
      · split at q
        · exact absurd q ei
        · exact q
def enc (S : Nat) : List Int → Nat
  | [] => 0
  | x :: l => x.toNat + S * enc S l
def SOk (S : Nat) (l : List Int) : Prop := ∀ x ∈ l, 0 ≤ x ∧ x < (S : Int)
theorem SOk.tail {S : Nat} {x : Int} {l : List Int} (h : SOk S (x :: l)) : SOk S l := fun y z => h y (List.mem_cons_of_mem _ z)
theorem SOk.app {S : Nat} {l m : List Int} (h : SOk S l) (k : SOk S m) : SOk S (l ++ m) := fun y z => (List.mem_append.mp z).elim (h y) (k y)
theorem SOk.set {S : Nat} {l : List Int} (h : SOk S l) {i : Nat} {v : Int} (k : 0 ≤ v ∧ v < (S : Int)) : SOk S (l.set i v) := fun y z => by
  rcases List.mem_or_eq_of_mem_set z with z | z
  · exact h y z
  · rw [z]; exact k
theorem SOk.rev {S : Nat} {l : List Int} (h : SOk S l) : SOk S l.reverse := fun y z => h y (List.mem_reverse.mp z)
theorem enc_lt {S : Nat} : ∀ {l : List Int}, SOk S l → enc S l < S ^ l.length
  | [], _ => by show 0 < 1; omega
  | x :: l, h => by
    have h1 := enc_lt h.tail
    have hx := h x (List.mem_cons_self ..)
    show x.toNat + S * enc S l < S ^ (l.length + 1)
    rw [Nat.pow_succ, Nat.mul_comm (S ^ l.length) S]
    have : S * (enc S l + 1) ≤ S * S ^ l.length := Nat.mul_le_mul_left S h1
    rw [Nat.mul_add, Nat.mul_one] at this
    omega
theorem div_eq2 {S x y a b : Nat} (hx : x < S) (hy : y < S) (e : x + S * a = y + S * b) : x = y ∧ a = b := by
  have p : 0 < S := by omega
  have e1 : (x + S * a) % S = x := by rw [Nat.add_mul_mod_self_left, Nat.mod_eq_of_lt hx]
  have e2 : (y + S * b) % S = y := by rw [Nat.add_mul_mod_self_left, Nat.mod_eq_of_lt hy]
  have exy : x = y := by rw [← e1, ← e2, e]
  subst exy
  refine ⟨rfl, Nat.eq_of_mul_eq_mul_left p (by omega)⟩
theorem enc_inj {S : Nat} : ∀ {l m : List Int}, SOk S l → SOk S m → l.length = m.length → enc S l = enc S m → l = m
  | [], [], _, _, _, _ => rfl
  | [], _ :: _, _, _, h, _ => by simp at h
  | _ :: _, [], _, _, h, _ => by simp at h
  | x :: l, y :: m, h, k, hl, e => by
    have hx := h x (List.mem_cons_self ..)
    have hy := k y (List.mem_cons_self ..)
    obtain ⟨e1, e2⟩ := div_eq2 (S := S) (x := x.toNat) (y := y.toNat) (by omega) (by omega) e
    rw [enc_inj h.tail k.tail (by simpa using hl) e2, show x = y by omega]
structure BOk (R S L : Nat) (b : Bs) : Prop where
  len : b.s.length = L
  s : SOk S b.s
  p0 : 0 ≤ b.p
  p1 : b.p < L
  r0 : 0 ≤ b.r
  r1 : b.r < R
section
variable {M : Mach} {R S L : Nat} {b c : Bs}
theorem BOk.sgB (h : BOk R S L b) : b.s[b.p.toNat]? = some (sgB b) ∧ 0 ≤ sgB b ∧ sgB b < S := by
  have l : b.p.toNat < b.s.length := by have := h.len; have := h.p0; have := h.p1; omega
  have e : b.s[b.p.toNat]? = some b.s[b.p.toNat] := List.getElem?_eq_getElem l
  have e2 : E.sgB b = b.s[b.p.toNat] := by unfold E.sgB; rw [e]; rfl
  rw [e2]
  exact ⟨e, h.s _ (List.getElem_mem l)⟩
theorem BOk.ent (h : BOk R S L b) (hM : MOk M R S) : EOk R S (entAt M b.r (E.sgB b)) := (ent_of hM h.r0 h.r1 h.sgB.2.1 h.sgB.2.2).choose_spec.2.2
theorem bn_ok (h : BOk R S L b) (hM : MOk M R S) (e : bn M b = .nxt c) : BOk R S L c := by
  have eo := h.ent hM
  cases ee : entAt M b.r (E.sgB b) with
  | emp => rw [bn_emp ee] at e; cases e
  | go pu wa to =>
    rw [ee] at eo
    obtain ⟨o1, o2, o3⟩ := eo.ok _ _ _ rfl
    by_cases z : 0 ≤ b.p + wa ∧ b.p + wa < (b.s.length : Int)
    · rw [bn_go ee z] at e
      cases e
      exact ⟨by rw [List.length_set]; exact h.len, h.s.set o1, z.1, by rw [← h.len]; exact z.2, o3.1, o3.2⟩
    · rw [bn_out ee z] at e; cases e
theorem tj_ok (hM : MOk M R S) : ∀ (n : Nat) (b c : Bs), BOk R S L b → tj M n b = some c → BOk R S L c
  | 0, b, c, h, e => by cases e; exact h
  | n + 1, b, c, h, e => by
    cases eb : bn M b with
    | nxt b' => rw [tj_nxt eb] at e; exact tj_ok hM n b' c (bn_ok h hM eb) e
    | lv w s r x d => rw [tj_lv eb] at e; cases e
def code (R S L : Nat) (b : Bs) : Nat := b.r.toNat + R * (b.p.toNat + L * enc S b.s)
theorem code_lt (h : BOk R S L b) : code R S L b < R * L * S ^ L := by
  have h1 := enc_lt h.s
  rw [h.len] at h1
  have hp : b.p.toNat < L := by have := h.p0; have := h.p1; omega
  have hr : b.r.toNat < R := by have := h.r0; have := h.r1; omega
  have a1 : L * (enc S b.s + 1) ≤ L * S ^ L := Nat.mul_le_mul_left L h1
  rw [Nat.mul_add, Nat.mul_one] at a1
  have a2 : b.p.toNat + L * enc S b.s + 1 ≤ L * S ^ L := by omega
  have a3 : R * (b.p.toNat + L * enc S b.s + 1) ≤ R * (L * S ^ L) := Nat.mul_le_mul_left R a2
  rw [Nat.mul_add, Nat.mul_one, ← Nat.mul_assoc] at a3
  show b.r.toNat + R * (b.p.toNat + L * enc S b.s) < _
  omega
theorem code_inj (h : BOk R S L b) (k : BOk R S L c) (e : code R S L b = code R S L c) : b = c := by
  have h1 := h.p0; have h2 := h.p1; have h3 := h.r0; have h4 := h.r1
  have k1 := k.p0; have k2 := k.p1; have k3 := k.r0; have k4 := k.r1
  obtain ⟨e1, e2⟩ := div_eq2 (S := R) (by omega) (by omega) e
  obtain ⟨e3, e4⟩ := div_eq2 (S := L) (by omega) (by omega) e2
  have e5 := enc_inj h.s k.s (h.len.trans k.len.symm) e4
  obtain ⟨s, p, r⟩ := b
  obtain ⟨s', p', r'⟩ := c
  simp only at *
  rw [e5, show p = p' by omega, show r = r' by omega]
/-- what has gone on for so long never leaves -/
theorem nv_of (hM : MOk M R S) (h : BOk R S L b) {N : Nat} (l : R * L * S ^ L ≤ N) (e : tj M N b ≠ none) : NV M b := by
  have a : ∀ i, i ≤ R * L * S ^ L → ∃ c, tj M i b = some c := fun i li => by
    cases z : tj M i b with
    | none => exact absurd z (tj_le (n := N) (by omega) e)
    | some c => exact ⟨c, rfl⟩
  obtain ⟨i, j, ij, jn, q⟩ := pig (R * L * S ^ L) (fun i => code R S L ((tj M i b).getD b)) fun i li => by
    obtain ⟨c, ec⟩ := a i li
    show code R S L ((tj M i b).getD b) < _
    rw [ec]
    exact code_lt (tj_ok hM i b c h ec)
  obtain ⟨c, ec⟩ := a i (by omega)
  obtain ⟨c', ec'⟩ := a j jn
  have q : code R S L ((tj M i b).getD b) = code R S L ((tj M j b).getD b) := q
  rw [ec, ec'] at q
  have e := code_inj (tj_ok hM i b c h ec) (tj_ok hM j b c' h ec') q
  rw [← e] at ec'
  exact NV.two ij ec ec'
end
/-! ### a block is gone through -/
def st0 (s : List Int) (row : Int) (far : Bool) : Bs := ⟨s, if far then (s.length : Int) - 1 else 0, row⟩
def mostB (R S L : Nat) : Nat := R * L * S ^ L
def thr (M : Mach) (R S : Nat) (s : List Int) (row : Int) (far : Bool) : ThR := bgo M (mostB R S s.length + 1) (st0 s row far) 0
section
variable {M : Mach} {R S L : Nat} {s : List Int} {row : Int} {far : Bool}
theorem st0_ok (h : SOk S s) (l : 1 ≤ s.length) (r0 : 0 ≤ row) (r1 : row < R) : BOk R S s.length (st0 s row far) := by
  refine ⟨rfl, h, ?_, ?_, r0, r1⟩
  · show 0 ≤ (if far then (s.length : Int) - 1 else 0); split <;> omega
  · show (if far then (s.length : Int) - 1 else 0) < s.length; split <;> omega
theorem thr_stay (hM : MOk M R S) (h : SOk S s) (l : 1 ≤ s.length) (r0 : 0 ≤ row) (r1 : row < R) (e : thr M R S s row far = .stay) : NV M (st0 s row far) :=
  nv_of hM (st0_ok h l r0 r1) (Nat.le_succ _) (bgo_stay _ _ _ e)
theorem thr_nv (e : NV M (st0 s row far)) : thr M R S s row far = .stay := e.stay _ _
theorem thr_fin {w s' r x m} (e : thr M R S s row far = .fin w s' r x m) : ∃ (i : Nat) (c : Bs) (d : Int), tj M i (st0 s row far) = some c ∧ bn M c = .lv w s' r x d ∧ m = i + d := by
  obtain ⟨i, c, d, _, h1, h2, h3⟩ := bgo_fin _ _ _ _ _ _ _ _ e
  exact ⟨i, c, d, h1, h2, by omega⟩
theorem thr_of (hM : MOk M R S) (h : SOk S s) (l : 1 ≤ s.length) (r0 : 0 ≤ row) (r1 : row < R) {i : Nat} {c : Bs} {w s' r x d} (e : tj M i (st0 s row far) = some c) (e' : bn M c = .lv w s' r x d) : thr M R S s row far = .fin w s' r x (i + d) := by
  by_cases z : i < mostB R S s.length + 1
  · have := bgo_of (M := M) i _ (st0 s row far) 0 c w s' r x d e e' z
    rw [Int.zero_add] at this
    exact this
  · exfalso
    have nv := nv_of (N := i) hM (st0_ok (far := far) h l r0 r1) (by unfold mostB at z; omega) (by rw [e]; exact fun z => nomatch z)
    exact nv (i + 1) (by rw [tj_at e, tj_lv e'])
end
/-! ### what is told of a block, as a datum -/
theorem all_ints {H : Hp} : ∀ s : List Int, IsAll H (s.map V.int) s := fun s => ⟨by rw [List.length_map], fun i x y h k => by
  rw [List.getElem?_map, k] at h
  cases h; rfl⟩
def ThR.py : ThR → PyData
  | .stay => .tuple [.str tStay.x]
  | .fin w s r x n => .tuple [.str w.x, .tuple (s.map .int), .int r, .int x, .int n]
def ThR.rep (H : Hp) (v : V) : ThR → Prop
  | .stay => ∃ p, v = .ref p ∧ H p = some (.tup [.str tStay.x])
  | .fin w s r x n => ∃ p q, v = .ref p ∧ H p = some (.tup [.str w.x, .ref q, .int r, .int x, .int n]) ∧ H q = some (.tup (s.map V.int))
theorem can_ints (s : List Int) : PyData.canLayAll0 (s.map .int) = true := can_all (α := Int) s
theorem depth_ints (s : List Int) : PyData.depthAll (s.map .int) ≤ 0 := depth_all (α := Int) s
theorem eqv_ints (a b : List Int) : PyData.eqvAll (a.map .int) (b.map .int) = true ↔ a = b := eqv_all (α := Int) a b
instance : Dat ThR where
  rep := ThR.rep
  mono := fun {H H' v d} s h => by
    cases d with
    | stay => obtain ⟨p, e, h⟩ := h; exact ⟨p, e, s _ _ h⟩
    | fin w l r x n => obtain ⟨p, q, e, h, k⟩ := h; exact ⟨p, q, e, s _ _ h, s _ _ k⟩
  py := ThR.py
  dp := fun {K H v d} h => by
    cases d with
    | stay => obtain ⟨p, rfl, h⟩ := h; exact .tup (SqT.of h) (.cons (.str _) .nil)
    | fin w l r x n =>
      obtain ⟨p, q, rfl, h, k⟩ := h
      exact .tup (SqT.of h) (.cons (.str _) (.cons (.tup (SqT.of k) (dp_all (α := Int) (all_ints l))) (.cons (.int _) (.cons (.int _) (.cons (.int _) .nil)))))
  can := fun d => by
    cases d with
    | stay => decide +kernel
    | fin w l r x n =>
      show (PyData.canLay0 (.str w.x) && (PyData.canLayAll0 (l.map .int) && (true && (true && (true && true))))) = true
      rw [show PyData.canLay0 (.str w.x) = true from w.ok, can_ints]
      rfl
  dep := 2
  depth := fun d => by
    cases d with
    | stay => decide +kernel
    | fin w l r x n =>
      have h := depth_ints l
      show max 0 (max (PyData.depthAll (l.map .int) + 1) (max 0 (max 0 (max 0 0)))) + 1 ≤ 2
      omega
  eqv := fun a b => by
    cases a with
    | stay =>
      cases b with
      | stay => simp [ThR.py, PyData.eqv, PyData.eqvAll]
      | fin w l r x n => simp [ThR.py, PyData.eqv, PyData.eqvAll]
    | fin w l r x n =>
      cases b with
      | stay => simp [ThR.py, PyData.eqv, PyData.eqvAll]
      | fin w' l' r' x' n' =>
        obtain ⟨wx, wo⟩ := w
        obtain ⟨wx', wo'⟩ := w'
        simp only [ThR.py, PyData.eqv, PyData.eqvAll, Bool.and_eq_true, eqv_ints, decide_eq_true_eq, beq_iff_eq, ThR.fin.injEq, TStr.mk.injEq, and_true]
theorem units65 {k : Nat} {A : Around} (r : Room k A) : A.units + 65 < cLine := by have := r.un; omega
/-! ### most_setups, through -/
theorem ixN_of {n : Nat} {i : Int} (h0 : 0 ≤ i) (h1 : i < n) : ixN n i = some i.toNat := by
  unfold ixN
  rw [if_pos h0, if_pos h1]
theorem int_eq2 {a b : Int} : decide (V.int a = V.int b) = decide (a = b) := by
  by_cases h : a = b
  · subst h; rw [decide_eq_true rfl, decide_eq_true rfl]
  · rw [decide_eq_false h, decide_eq_false fun e => h (V.int.inj e)]
theorem most_le {R S L : Nat} (hR : R ≤ 4) (hS : S ≤ 4) (hL : L ≤ 8) {i : Nat} (hi : i ≤ L) : R * L * S ^ i ≤ 2097152 := by
  have a : S ^ i ≤ 4 ^ 8 := Nat.le_trans (Nat.pow_le_pow_left hS i) (Nat.pow_le_pow_right (by decide) (by omega))
  have b : R * L ≤ 4 * 8 := Nat.mul_le_mul hR hL
  exact Nat.le_trans (Nat.mul_le_mul b a) (by decide)
def sp_most_setups : Sp := fun vs H Q _ => ∃ (F : Hp) (m : V) (b : Addr) (M : Mach) (R S : Nat) (s : List Int), vs = [m, .ref b] ∧ Same F H ∧ Is F m M ∧ MOk M R S ∧ F b = some (.tup (s.map V.int)) ∧ s.length ≤ 8 ∧ Q (.int (mostB R S s.length : Nat)) H
theorem ok_most_setups (t : Tx K mg) : FnOk P w K mg base CX0 1 t.a_most_setups t.fd_most_setups ["machine", "block"] sp_most_setups := by
  refine t.F_most_setups.ok sc_most_setups (fun vs H Q E h => ?_) (fun cdv A outer s H vs Q E hr h => ?_)
  · obtain ⟨F, m, b, M, R, S, ss, rfl, _⟩ := h
    rfl
  · obtain ⟨F, m, b, M, R, S, ss, rfl, sF, hm, hM, hb, l8, q⟩ := h
    refine ⟨_, (pss_cons (ps_set (i := 2) sc_most_setups.nd rfl (by first | exact Or.inl rfl | exact Or.inr rfl) (pe_op op_mul (pe_callB (id := "len") call_lenQ (by rfl) t.n_len (by decide +kernel) (pa_cons (pv 0) pa_nil)) (pe_callB (id := "len") call_lenQ (by rfl) t.n_len (by decide +kernel) (pa_cons (pv 1) pa_nil))))
      (pss_cons (ps_for PassesOwn.never rfl (pi_tup (pv 1)) (pg_name (i := 3) sc_most_setups.nd rfl (by first | exact Or.inl rfl | exact Or.inr rfl)) (pss_one (ps_set (i := 2) sc_most_setups.nd rfl (by first | exact Or.inl rfl | exact Or.inr rfl) (pe_op op_mul (pv 2) (pe_callB (id := "len") call_lenQ (by rfl) t.n_len (by decide +kernel) (pa_cons (pe_ix ix_list (pv 0) pe_int (fun _ _ => rfl)) pa_nil))))))
      (pss_one (ps_ret (pv 2))))), ?_⟩
    obtain ⟨am, rs, rfl, ha, hrs⟩ := hm
    have lrs : rs.length = R := hrs.1.trans hM.len
    have r1 := hM.r1; have r4 := hM.r4; have s2 := hM.s2; have s4 := hM.s4
    have hx0 : rs[0]? = some rs[0] := List.getElem?_eq_getElem (by omega)
    obtain ⟨row0, hM0, a0, es0, e0, ha0, hes0⟩ := hrs.get' hx0
    have ls0 : es0.length = S := hes0.1.trans (hM.row _ (List.mem_of_getElem? hM0))
    have lb : (ss.map V.int).length = ss.length := List.length_map ..
    refine ⟨_, rfl, am, rs, rfl, .inl (SqL.of (sF _ _ ha)), _, rfl, b, _, rfl, .inr (SqT.of (sF _ _ hb)), _, _, rfl, rfl, .inl ⟨by omega, by omega⟩, ?_⟩
    refine ⟨_, rfl, b, rfl, ⟨_, SqT.of (sF _ _ hb)⟩, for_tup (K := K) (a := b) (xs := ss.map V.int) (fun i σ G => ∃ v3 : Option V, σ = [some (.ref am), some (.ref b), some (.int (R * ss.length * S ^ i : Nat)), v3] ∧ G = H)
      ⟨none, by rw [lrs, lb, Nat.pow_zero, Nat.mul_one, Int.natCast_mul]; rfl, rfl⟩ (fun i σ G _ ⟨_, _, e⟩ => by rw [e]; exact SqT.of (sF _ _ hb)) ?_ ?_⟩
    · rintro i x σ G hi ⟨v3, rfl, rfl⟩
      have il : i < ss.length := by have := (List.getElem?_eq_some_iff.mp hi).1; omega
      have bd := most_le r4 s4 l8 (Nat.le_of_lt il)
      refine ⟨_, rfl, _, rfl, am, rs, _, _, rfl, rfl, SqL.of (sF _ _ ha), atI_nat (j := 0) hx0, ?_⟩
      rw [e0]
      refine ⟨a0, es0, rfl, .inl (SqL.of (sF _ _ ha0)), _, _, rfl, rfl, .inl ⟨by omega, by omega⟩, some x, ?_, rfl⟩
      rw [ls0, Nat.pow_succ, ← Nat.mul_assoc]
      rfl
    · rintro σ G ⟨v3, rfl, rfl⟩
      rw [lb]
      exact ⟨_, rfl, q⟩
def sp_through : Sp := fun vs H Q _ => ∃ (F : Hp) (m : V) (b : Addr) (M : Mach) (R S : Nat) (s : List Int) (row side : Int), vs = [m, .ref b, .int row, .int side] ∧ Same F H ∧ Is F m M ∧ MOk M R S ∧ F b = some (.tup (s.map V.int)) ∧ SOk S s ∧ 1 ≤ s.length ∧ s.length ≤ 8 ∧ 0 ≤ row ∧ row < R ∧
  ∀ (F' H' : Hp) (v : V), Gr mu0 F H F' H' → Is F' v (thr M R S s row (decide (side = 1))) → Q v H'
theorem ok_through (t : Tx K mg) : FnOk P w K mg base CX0 4 t.a_through t.fd_through ["machine", "block", "row", "side"] sp_through := by
  refine t.F_through.ok sc_through (fun vs H Q E h => ?_) (fun cdv A outer s H vs Q E hr h => ?_)
  · obtain ⟨F, m, b, M, R, S, ss, row, side, rfl, _⟩ := h
    rfl
  · obtain ⟨F, m, b, M, R, S, ss, row, side, rfl, sF, hm, hM, hb, hs, l1, l8, r0, r1, q⟩ := h
    refine ⟨_, (pss_cons (ps_expr (pe_call (ok_must_machine t) (hr.mono (by decide)) (by rfl) t.m_must_machine t.F_must_machine.kp t.b_must_machine .nil pass0 (pa_cons (pv 0) pa_nil)))
      (pss_cons (ps_set (i := 4) sc_through.nd rfl (by first | exact Or.inl rfl | exact Or.inr rfl) (pe_callTy (T := "list") call_listQ (by rfl) t.n_list (by decide +kernel) (pa_cons (pv 1) pa_nil)))
      (pss_cons (ps_set (i := 5) sc_through.nd rfl (by first | exact Or.inl rfl | exact Or.inr rfl) pe_int)
      (pss_cons (ps_if (pt_cmpR op_eq (pv 3) pe_int (nomark _)) (pss_one (ps_set (i := 5) sc_through.nd rfl (by first | exact Or.inl rfl | exact Or.inr rfl) (pe_op op_sub (pe_callB (id := "len") call_lenQ (by rfl) t.n_len (by decide +kernel) (pa_cons (pv 4) pa_nil)) pe_int))) pss_nil)
      (pss_cons (ps_for PassesOwn.never rfl (pi_range1 (by rfl) t.n_range (pa_cons (pe_op op_add (pe_call (ok_most_setups t) (hr.mono (by decide)) (by rfl) t.m_most_setups t.F_most_setups.kp t.b_most_setups .nil pass0 (pa_cons (pv 0) (pa_cons (pv 1) pa_nil))) pe_int) pa_nil)) (pg_name (i := 6) sc_through.nd rfl (by first | exact Or.inl rfl | exact Or.inr rfl)) (pss_cons (ps_set (i := 7) sc_through.nd rfl (by first | exact Or.inl rfl | exact Or.inr rfl) (pe_ix ix_list (pe_ix ix_list (pv 0) (pv 2) (fun _ _ => rfl)) (pe_ix ix_list (pv 4) (pv 5) (fun _ _ => rfl)) (fun _ _ => rfl)))
      (pss_cons (ps_if (pt_cmpR (op_eqD hr.units) (pv 7) (pe_tup pa_nil) (nomark _)) (pss_one (ps_ret (pe_tup (pa_cons pe_str (pa_cons (pe_callTy (T := "tuple") call_tupQ (by rfl) t.n_tuple (by decide +kernel) (pa_cons (pv 4) pa_nil)) (pa_cons (pv 2) (pa_cons (pv 5) (pa_cons (pv 6) pa_nil)))))))) pss_nil)
      (pss_cons (ps_asg (pe_ix ix_tup (pv 7) pe_int (fun _ _ => rfl)) (pg_sub (pv 4) (pv 5) set_list))
      (pss_cons (ps_aug (i := 5) sc_through.nd rfl (by first | exact Or.inl rfl | exact Or.inr rfl) (pe_ix ix_tup (pv 7) pe_int (fun _ _ => rfl)) ip_add)
      (pss_cons (ps_set (i := 2) sc_through.nd rfl (by first | exact Or.inl rfl | exact Or.inr rfl) (pe_ix ix_tup (pv 7) pe_int (fun _ _ => rfl)))
      (pss_one (ps_if (pt_not (pt_chain op_le op_lt pe_int (pv 5) (pe_callB (id := "len") call_lenQ (by rfl) t.n_len (by decide +kernel) (pa_cons (pv 4) pa_nil)))) (pss_one (ps_ret (pe_tup (pa_cons pe_str (pa_cons (pe_callTy (T := "tuple") call_tupQ (by rfl) t.n_tuple (by decide +kernel) (pa_cons (pv 4) pa_nil)) (pa_cons (pv 2) (pa_cons (pe_ix ix_tup (pv 7) pe_int (fun _ _ => rfl)) (pa_cons (pe_op op_add (pv 6) pe_int) pa_nil)))))))) pss_nil))))))))
      (pss_one (ps_ret (pe_tup (pa_cons pe_str pa_nil))))))))), ?_⟩
    refine ⟨_, rfl, F, m, M, R, S, rfl, sF, hm, hM, fun H1 g1 => ?_⟩
    refine ⟨_, rfl, b, _, rfl, .inr (SqT.of (g1.fh _ _ hb)), fun l nl => ?_⟩
    have g2 := g1.own (o := .lst (ss.map V.int)) nl
    have w2 : Ow H F (upd H1 l (.lst (ss.map V.int))) l (.lst (ss.map V.int)) := Ow.mk1 g1 nl
    generalize upd H1 l (.lst (ss.map V.int)) = H2 at g2 w2 ⊢
    refine ⟨_, rfl, rfl, _, rfl, ?_⟩
    rw [int_eq2]
    have lb : (ss.map V.int).length = ss.length := List.length_map ..
    have mb := most_le (S := S) hM.r4 hM.s4 l8 (Nat.le_refl _)
    refine ite2 (fun c => ?A) (fun c => ?B)
    case' A =>
      refine ⟨_, rfl, l, _, rfl, .inl (SqL.of w2.h), _, _, rfl, rfl, ?_⟩
      have ep : (st0 ss row (decide (side = 1))).p = ((ss.map V.int).length : Int) - 1 := by rw [lb]; unfold st0; rw [if_pos c]
    case' B =>
      have ep : (st0 ss row (decide (side = 1))).p = 0 := by unfold st0; rw [if_neg c]
    all_goals
      refine ⟨_, rfl, _, rfl, F, m, b, M, R, S, ss, rfl, g2.fh, hm, hM, hb, l8, _, _, rfl, rfl, ((mostB R S ss.length : Nat) : Int) + 1, rfl, by omega, by unfold mostB; omega, ?_⟩
      refine for_range (lo := 0) (n := (((mostB R S ss.length : Nat) : Int) + 1).toNat) (fun i σ G => ∃ (c : Bs) (v6 v7 : Option V), σ = [some m, some (.ref b), some (.int c.r), some (.int side), some (.ref l), some (.int c.p), v6, v7] ∧ Gr mu0 F H F G ∧ Ow H F G l (.lst (c.s.map V.int)) ∧ BOk R S ss.length c ∧ thr M R S ss row (decide (side = 1)) = bgo M (mostB R S ss.length + 1 - i) c i)
        ⟨st0 ss row (decide (side = 1)), none, none, by rw [ep]; rfl, g2, w2, st0_ok hs l1 r0 r1, rfl⟩ ?_ ?_
      · rintro i σ G hi ⟨c, v6, v7, rfl, g, w, ok, et⟩
        have en : mostB R S ss.length + 1 - i = (mostB R S ss.length - i) + 1 := by omega
        rw [en] at et
        have lc := ok.len
        have c0 := ok.p0
        have c1 := ok.p1
        obtain ⟨rw', hrw, he, eo⟩ := ent_of hM ok.r0 ok.r1 ok.sgB.2.1 ok.sgB.2.2
        obtain ⟨am, rs, rfl, ha, hrs⟩ := id hm
        obtain ⟨y, hy, bm, es', rfl, hbm, hes⟩ := hrs.get hrw
        obtain ⟨z, hz, hze⟩ := hes.get he
        have hsg : (c.s.map V.int)[c.p.toNat]? = some (.int (sgB c)) := by rw [List.getElem?_map, ok.sgB.1]; rfl
        refine ⟨_, rfl, _, rfl, am, rs, _, _, rfl, rfl, SqL.of (g.fh _ _ ha), at_of (Int.toNat_of_nonneg ok.r0).symm hy, ?_⟩
        refine ⟨_, rfl, _, rfl, l, _, _, _, rfl, rfl, SqL.of w.h, at_of (Int.toNat_of_nonneg c0).symm hsg, bm, es', _, _, rfl, rfl, SqL.of (g.fh _ _ hbm), at_of (Int.toNat_of_nonneg ok.sgB.2.1).symm hz, ?_⟩
        refine ⟨_, rfl, nil_le, fun e1 ne1 => ?_⟩
        have gg := g.own (o := .tup []) ne1
        have ww := w.own (u := .tup []) ne1
        refine eq_dat (a := entAt M c.r (sgB c)) (b := Ent.emp) (hze.up gg.fh) ⟨e1, rfl, upd_same⟩ ⟨_, rfl, ?_⟩
        generalize upd G e1 (.tup []) = G1 at gg ww ⊢
        -- what is told when it leaves
        have fin : ∀ (s' : List Int) (tg : TStr) (r x n : Int) (G2 : Hp), Gr mu0 F H F G2 → thr M R S ss row (decide (side = 1)) = .fin tg s' r x n → ∀ p, G2 p = none → ∀ u, upd G2 p (.tup (s'.map V.int)) u = none → Q (.ref u) (upd (upd G2 p (.tup (s'.map V.int))) u (.tup [.str tg.x, .ref p, .int r, .int x, .int n])) := by
          intro s' tg r x n G2 k e p np u nu
          have k1 := k.new (o := .tup (s'.map V.int)) np
          have n2 : (upd F p (.tup (s'.map V.int))) u = none := k1.fh.free nu
          refine q _ _ (.ref u) (k1.new (o := .tup [.str tg.x, .ref p, .int r, .int x, .int n]) nu) ?_
          rw [e]
          exact ⟨u, p, rfl, upd_same, ln n2 upd_same⟩
        cases ee : entAt M c.r (sgB c) with
        | emp =>
          refine ifT (decide_eq_true rfl) ⟨_, rfl, l, _, rfl, .inl ⟨SqL.of ww.h, fun p np => ⟨_, rfl, _, rfl, _, rfl, five_le, fun u nu => ?_⟩⟩⟩
          refine fin c.s tEnd c.r c.p _ G1 gg ?_ p np u nu
          rw [et, bgo_lv (bn_emp ee)]
          congr 1; omega
        | go pu wa to =>
          rw [ee] at hze eo
          obtain ⟨o1, o2, o3⟩ := eo.ok _ _ _ rfl
          obtain ⟨ae, rfl, hae⟩ := hze
          have hae1 := gg.fh _ _ hae
          refine ifF (decide_eq_false (by intro z; cases z)) ?_
          refine ⟨_, rfl, ae, _, _, _, rfl, rfl, SqT.of hae1, atI_nat (j := 0) rfl, _, rfl, _, rfl, l, _, _, c.p.toNat, rfl, rfl, ww.h, ixN_of c0 (by rw [List.length_map]; omega), ?_⟩
          have g3 := gg.set (o := .lst ((c.s.map V.int).set c.p.toNat (.int pu))) ww.f (.inl ww.n)
          have w3 := ww.set (u := .lst ((c.s.map V.int).set c.p.toNat (.int pu)))
          rw [← List.map_set] at g3 w3 ⊢
          generalize upd G1 l (.lst ((c.s.set c.p.toNat pu).map V.int)) = G3 at g3 w3 ⊢
          have hae3 := g3.fh _ _ hae
          refine ⟨_, rfl, _, rfl, ae, _, _, _, rfl, rfl, SqT.of hae3, atI_nat (j := 1) rfl, _, _, rfl, rfl, ?_⟩
          refine ⟨_, rfl, ae, _, _, _, rfl, rfl, SqT.of hae3, atI_nat (j := 2) rfl, ?_⟩
          have ll : ((c.s.set c.p.toNat pu).map V.int).length = c.s.length := by rw [List.length_map, List.length_set]
          refine ⟨_, rfl, _, _, rfl, rfl, _, rfl, ?_⟩
          by_cases z : 0 ≤ c.p + wa ∧ c.p + wa < (c.s.length : Int)
          · refine ifT (decide_eq_true z.1) ⟨_, rfl, l, _, rfl, .inl (SqL.of w3.h), _, _, rfl, rfl, _, rfl, ?_⟩
            refine ifF (by rw [ll, decide_eq_true z.2]; rfl) ?_
            refine ⟨⟨c.s.set c.p.toNat pu, c.p + wa, to⟩, _, _, rfl, g3, w3, bn_ok ok hM (bn_go ee z), ?_⟩
            rw [et, bgo_nxt (bn_go ee z), show mostB R S ss.length + 1 - (i + 1) = mostB R S ss.length - i by omega]
            congr 1
          · by_cases k : 0 ≤ c.p + wa
            · refine ifT (decide_eq_true k) ⟨_, rfl, l, _, rfl, .inl (SqL.of w3.h), _, _, rfl, rfl, _, rfl, ?_⟩
              refine ifT (by rw [ll, decide_eq_false (fun y => z ⟨k, y⟩)]; rfl) ?_
              refine ⟨_, rfl, l, _, rfl, .inl ⟨SqL.of w3.h, fun p np => ⟨_, rfl, _, rfl, ae, _, _, _, rfl, rfl, SqT.of (ln np hae3), atI_nat (j := 1) rfl, _, rfl, _, _, rfl, rfl, five_le, fun u nu => ?_⟩⟩⟩
              refine fin (c.s.set c.p.toNat pu) tOut to wa _ G3 g3 ?_ p np u nu
              rw [et, bgo_lv (bn_out ee z)]
              congr 1; omega
            · refine ifF (decide_eq_false k) ⟨_, rfl, ?_⟩
              refine ifT rfl ?_
              refine ⟨_, rfl, l, _, rfl, .inl ⟨SqL.of w3.h, fun p np => ⟨_, rfl, _, rfl, ae, _, _, _, rfl, rfl, SqT.of (ln np hae3), atI_nat (j := 1) rfl, _, rfl, _, _, rfl, rfl, five_le, fun u nu => ?_⟩⟩⟩
              refine fin (c.s.set c.p.toNat pu) tOut to wa _ G3 g3 ?_ p np u nu
              rw [et, bgo_lv (bn_out ee z)]
              congr 1; omega
      · rintro σ G ⟨c, v6, v7, rfl, g, w, ok, et⟩
        refine ⟨one_le, fun u nu => ?_⟩
        refine q _ _ (.ref u) (g.new (o := .tup [.str tStay.x]) nu) ?_
        rw [et, show mostB R S ss.length + 1 - (((mostB R S ss.length : Nat) : Int) + 1).toNat = 0 by omega]
        exact ⟨u, rfl, upd_same⟩
/-! ### strips told, whatever keeps them (plain) -/
structure IsSt (l : List PI) (f : Int → Int) : Prop where
  rise : l.Pairwise (fun p q => p.a < q.a)
  mem : ∀ x s, (⟨x, s⟩ : PI) ∈ l ↔ (f x = s ∧ s ≠ 0)
theorem IsSt.nz {l : List PI} {f : Int → Int} (h : IsSt l f) {p : PI} (m : p ∈ l) : f p.a = p.b ∧ p.b ≠ 0 := (h.mem p.a p.b).mp m
theorem rise_eq : ∀ {l m : List PI}, l.Pairwise (fun p q => p.a < q.a) → m.Pairwise (fun p q => p.a < q.a) → (∀ p, p ∈ l ↔ p ∈ m) → l = m
  | [], [], _, _, _ => rfl
  | [], q :: m, _, _, h => nomatch (h q).mpr (List.mem_cons_self ..)
  | p :: l, [], _, _, h => nomatch (h p).mp (List.mem_cons_self ..)
  | p :: l, q :: m, hl, hm, h => by
    obtain ⟨hp, hl2⟩ := List.pairwise_cons.mp hl
    obtain ⟨hq, hm2⟩ := List.pairwise_cons.mp hm
    have e : p = q := by
      rcases List.mem_cons.mp ((h p).mp (List.mem_cons_self ..)) with e | m1
      · exact e
      · rcases List.mem_cons.mp ((h q).mpr (List.mem_cons_self ..)) with e | m2
        · exact e.symm
        · have a := hq p m1
          have b := hp q m2
          omega
    subst e
    congr 1
    refine rise_eq hl2 hm2 fun r => ⟨fun z => ?_, fun z => ?_⟩
    · rcases List.mem_cons.mp ((h r).mp (List.mem_cons_of_mem _ z)) with e | m1
      · subst e; have := hp _ z; omega
      · exact m1
    · rcases List.mem_cons.mp ((h r).mpr (List.mem_cons_of_mem _ z)) with e | m1
      · subst e; have := hq _ z; omega
      · exact m1
theorem IsSt.uniq {l m : List PI} {f : Int → Int} (h : IsSt l f) (k : IsSt m f) : l = m := rise_eq h.rise k.rise fun p => (h.mem p.a p.b).trans (k.mem p.a p.b).symm
/-- the sign at x of a strip kept by blocks of k -/
def fB (k : Nat) (B : Int → List Int) (x : Int) : Int := ((B (x / (k : Int)))[(x % (k : Int)).toNat]?).getD 0
def piece (base : Int) : List Int → List PI
  | [] => []
  | s :: r => (if s ≠ 0 then [⟨base, s⟩] else []) ++ piece (base + 1) r
theorem mem_piece : ∀ (s : List Int) (base x v : Int), (⟨x, v⟩ : PI) ∈ piece base s ↔ ∃ j : Nat, x = base + j ∧ s[j]? = some v ∧ v ≠ 0
  | [], base, x, v => by simp [piece]
  | s :: r, base, x, v => by
    rw [piece, List.mem_append, mem_piece r (base + 1) x v]
    constructor
    · rintro (h | ⟨j, h1, h2, h3⟩)
      · by_cases z : s ≠ 0
        · rw [if_pos z, List.mem_singleton] at h
          cases h
          exact ⟨0, by omega, rfl, z⟩
        · rw [if_neg z] at h; cases h
      · exact ⟨j + 1, by omega, h2, h3⟩
    · rintro ⟨j, h1, h2, h3⟩
      cases j with
      | zero =>
        cases h2
        refine .inl ?_
        rw [if_pos h3, List.mem_singleton, show x = base by omega]
      | succ j => exact .inr ⟨j, by omega, h2, h3⟩
theorem piece_rise : ∀ (s : List Int) (base : Int), (piece base s).Pairwise (fun p q => p.a < q.a)
  | [], _ => .nil
  | s :: r, base => by
    rw [piece, List.pairwise_append]
    refine ⟨by split <;> simp, piece_rise r (base + 1), fun p hp q hq => ?_⟩
    obtain ⟨x, v⟩ := q
    obtain ⟨j, h1, _, _⟩ := (mem_piece r (base + 1) x v).mp hq
    have : p.a = base := by
      split at hp
      · rw [List.mem_singleton.mp hp]
      · cases hp
    show p.a < x
    omega
theorem piece_snoc : ∀ (s : List Int) (base : Int) (v : Int), piece base (s ++ [v]) = piece base s ++ (if v ≠ 0 then [⟨base + s.length, v⟩] else [])
  | [], base, v => by
    show (if v ≠ 0 then ([⟨base, v⟩] : List PI) else []) ++ [] = [] ++ _
    rw [List.append_nil, List.nil_append, show base + ((([] : List Int).length : Nat) : Int) = base by simp]
  | s :: r, base, v => by
    rw [List.cons_append, piece, piece, piece_snoc r (base + 1) v, List.append_assoc]
    congr 2
    rw [show base + 1 + (r.length : Int) = base + ((s :: r).length : Int) by simp; omega]
def stripO (k : Nat) (B : Int → List Int) (ys : List Int) : List PI := ys.flatMap fun a => piece (a * k) (B a)
theorem strip_ok {k : Nat} (k1 : 1 ≤ k) {B : Int → List Int} (hB : ∀ a, (B a).length = k) {ys : List Int} (hy : ys.Pairwise (· < ·)) (out : ∀ a, a ∉ ys → ∀ v ∈ B a, v = 0) : IsSt (stripO k B ys) (fB k B) := by
  have pl : ∀ (a x v : Int), (⟨x, v⟩ : PI) ∈ piece (a * k) (B a) → a * k ≤ x ∧ x < a * k + k := fun a x v m => by
    obtain ⟨j, h1, h2, _⟩ := (mem_piece _ _ x v).mp m
    have := (List.getElem?_eq_some_iff.mp h2).1
    rw [hB] at this
    omega
  refine ⟨?_, fun x s => ?_⟩
  · unfold stripO
    rw [List.pairwise_flatMap]
    refine ⟨fun a _ => piece_rise _ _, hy.imp fun {a b} ab p hp q hq => ?_⟩
    obtain ⟨x, v⟩ := p
    obtain ⟨y, u⟩ := q
    have h1 := pl a x v hp
    have h2 := pl b y u hq
    show x < y
    have : (a + 1) * (k : Int) ≤ b * k := Int.mul_le_mul_of_nonneg_right (by omega) (by omega)
    rw [Int.add_mul, Int.one_mul] at this
    omega
  · unfold stripO
    rw [List.mem_flatMap]
    have km : (k : Int) ≠ 0 := by omega
    have hd := Int.mul_ediv_add_emod x k
    have h0 := Int.emod_nonneg x km
    have h1 := Int.emod_lt_of_pos x (show (0 : Int) < k by omega)
    have hc := Int.mul_comm (x / (k : Int)) k
    constructor
    · rintro ⟨a, ha, hm⟩
      have hp := pl a x s hm
      obtain ⟨j, e1, e2, e3⟩ := (mem_piece _ _ x s).mp hm
      have ea : x / (k : Int) = a := by
        have := (Int.ediv_emod_unique (a := x) (b := k) (r := j) (q := a) (by omega)).mpr ⟨by rw [Int.mul_comm]; omega, by omega, by omega⟩
        exact this.1
      have ej : x % (k : Int) = j := by
        have := (Int.ediv_emod_unique (a := x) (b := k) (r := j) (q := a) (by omega)).mpr ⟨by rw [Int.mul_comm]; omega, by omega, by omega⟩
        exact this.2
      refine ⟨?_, e3⟩
      unfold fB
      rw [ea, ej, Int.toNat_natCast, e2]; rfl
    · rintro ⟨hf, hs⟩
      have l : (x % (k : Int)).toNat < (B (x / (k : Int))).length := by rw [hB]; omega
      have e : (B (x / (k : Int)))[(x % (k : Int)).toNat]? = some s := by
        rw [List.getElem?_eq_getElem l]
        unfold fB at hf
        rw [List.getElem?_eq_getElem l] at hf
        exact congrArg some hf
      refine ⟨x / (k : Int), ?_, (mem_piece _ _ x s).mpr ⟨(x % (k : Int)).toNat, by omega, e, hs⟩⟩
      by_cases z : x / (k : Int) ∈ ys
      · exact z
      · exact absurd (out _ z s (List.mem_of_getElem? e)) hs
/-! ### walks by blocks (plain) -/
structure Wk where
  B : Int → List Int
  at_ : Int
  row : Int
  far : Bool
  st : Int
def updB (B : Int → List Int) (a : Int) (s : List Int) : Int → List Int := fun x => if x = a then s else B x
def Wk.out (W : Wk) (s : List Int) (r wa m : Int) : Wk := ⟨updB W.B W.at_ s, W.at_ + wa, r, decide (-wa = 1), W.st + m⟩
def plB (k : Nat) (W : Wk) : Int := W.at_ * k + (if W.far then (k : Int) - 1 else 0)
structure ByR where
  w : TStr
  st : Int
  row : Int
  pl : Int
  B : Int → List Int
def tOnB : TStr := ⟨"on", by decide +kernel⟩
def byB (M : Mach) (R S k : Nat) : Nat → Wk → ByR
  | 0, W => ⟨tOnB, W.st, W.row, plB k W, W.B⟩
  | n + 1, W => match thr M R S (W.B W.at_) W.row W.far with
    | .stay => ⟨tStay, W.st, W.row, plB k W, W.B⟩
    | .fin w s r x m => if w = tEnd then ⟨tEnd, W.st + m, r, W.at_ * k + x, updB W.B W.at_ s⟩ else byB M R S k n (W.out s r x m)
theorem byB_stay {M : Mach} {R S k n : Nat} {W : Wk} (e : thr M R S (W.B W.at_) W.row W.far = .stay) : byB M R S k (n + 1) W = ⟨tStay, W.st, W.row, plB k W, W.B⟩ := by
  rw [byB, e]
theorem byB_end {M : Mach} {R S k n : Nat} {W : Wk} {s : List Int} {r x m : Int} (e : thr M R S (W.B W.at_) W.row W.far = .fin tEnd s r x m) : byB M R S k (n + 1) W = ⟨tEnd, W.st + m, r, W.at_ * k + x, updB W.B W.at_ s⟩ := by
  rw [byB, e]
  exact if_pos rfl
theorem byB_out {M : Mach} {R S k n : Nat} {W : Wk} {s : List Int} {r x m : Int} (e : thr M R S (W.B W.at_) W.row W.far = .fin tOut s r x m) : byB M R S k (n + 1) W = byB M R S k n (W.out s r x m) := by
  rw [byB, e]
  exact if_neg (by decide +kernel)
structure OkW (R S k : Nat) (W : Wk) : Prop where
  len : ∀ a, (W.B a).length = k
  s : ∀ a, SOk S (W.B a)
  r0 : 0 ≤ W.row
  r1 : W.row < R
def W0 (k : Nat) : Wk := ⟨fun _ => List.replicate k 0, 0, 0, false, 0⟩
theorem W0_ok {R S k : Nat} (r1 : 1 ≤ R) (s1 : 1 ≤ S) : OkW R S k (W0 k) :=
  ⟨fun _ => List.length_replicate, fun _ x m => by rw [(List.mem_replicate.mp m).2]; omega, Int.le_refl 0, by show (0 : Int) < R; omega⟩
theorem updB_same {B : Int → List Int} {a : Int} {s : List Int} : updB B a s a = s := if_pos rfl
/-- what a way through a block leaves -/
theorem thr_ok {M : Mach} {R S : Nat} {s : List Int} {row : Int} {far : Bool} (hM : MOk M R S) (h : SOk S s) (l : 1 ≤ s.length) (r0 : 0 ≤ row) (r1 : row < R) {w s' r x m} (e : thr M R S s row far = .fin w s' r x m) :
    (w = tEnd ∨ w = tOut) ∧ s'.length = s.length ∧ SOk S s' ∧ (0 ≤ r ∧ r < R) ∧ 0 ≤ m ∧ (w = tEnd → 0 ≤ x ∧ x < s.length) ∧ (w = tOut → (x = -1 ∨ x = 1) ∧ 1 ≤ m) := by
  obtain ⟨i, c, d, t1, t2, t3⟩ := thr_fin e
  have okc := tj_ok hM i _ c (st0_ok (far := far) h l r0 r1) t1
  have eo := okc.ent hM
  cases ee : entAt M c.r (sgB c) with
  | emp =>
    rw [bn_emp ee] at t2
    cases t2
    exact ⟨.inl rfl, okc.len, okc.s, ⟨okc.r0, okc.r1⟩, by omega, fun _ => ⟨okc.p0, okc.p1⟩, fun z => absurd z (by decide +kernel)⟩
  | go pu wa to =>
    rw [ee] at eo
    obtain ⟨o1, o2, o3⟩ := eo.ok _ _ _ rfl
    by_cases z : 0 ≤ c.p + wa ∧ c.p + wa < (c.s.length : Int)
    · rw [bn_go ee z] at t2; cases t2
    · rw [bn_out ee z] at t2
      cases t2
      exact ⟨.inr rfl, by rw [List.length_set]; exact okc.len, okc.s.set o1, o3, by omega, fun z => absurd z.symm (by decide +kernel), fun _ => ⟨o2, by omega⟩⟩
theorem OkW.out {M : Mach} {R S k : Nat} {W : Wk} (h : OkW R S k W) (hM : MOk M R S) (k1 : 1 ≤ k) {s : List Int} {r x m : Int} (e : thr M R S (W.B W.at_) W.row W.far = .fin tOut s r x m) : OkW R S k (W.out s r x m) := by
  obtain ⟨_, h1, h2, h3, _⟩ := thr_ok hM (h.s _) (by rw [h.len]; exact k1) h.r0 h.r1 e
  refine ⟨fun a => ?_, fun a => ?_, h3.1, h3.2⟩
  · show (updB W.B W.at_ s a).length = k
    unfold updB
    split
    · rw [h1, h.len]
    · exact h.len a
  · show SOk S (updB W.B W.at_ s a)
    unfold updB
    split
    · exact h2
    · exact h.s a
/-! ### dicts from ints to data -/
abbrev DI (β : Type) := List (Int × V × β)
section
variable {β : Type}
def diK (L : DI β) : List (Key × V) := L.map fun t => (Sum.inl t.1, t.2.1)
def lkD (L : DI β) (x : Int) : Option β := (L.find? fun t => decide (t.1 = x)).map (·.2.2)
def ptD (L : DI β) (x : Int) (v : V) (d : β) : DI β := if (L.any fun t => decide (t.1 = x)) = true then L.map (fun t => if t.1 = x then (t.1, v, d) else t) else L ++ [(x, v, d)]
def DiIs [Dat β] (H : Hp) (L : DI β) : Prop := ∀ t ∈ L, Is H t.2.1 t.2.2
theorem DiIs.up [Dat β] {H H' : Hp} {L : DI β} (h : DiIs H L) (s : Same H H') : DiIs H' L := fun t m => Is.up (h t m) s
theorem lkD_cons (t : Int × V × β) (L : DI β) (x : Int) : lkD (t :: L) x = if t.1 = x then some t.2.2 else lkD L x := by
  unfold lkD
  rw [List.find?_cons]
  by_cases e : t.1 = x
  · simp [e]
  · simp [e]
theorem di_get {x : Int} {d : β} : ∀ {L : DI β}, lkD L x = some d → ∃ v, valV (diK L) (Sum.inl x) = some v ∧ (x, v, d) ∈ L
  | [], h => nomatch h
  | t :: L, h => by
    rw [lkD_cons] at h
    show ∃ v, valV ((Sum.inl t.1, t.2.1) :: diK L) (Sum.inl x) = some v ∧ _
    by_cases e : t.1 = x
    · rw [if_pos e] at h
      cases h
      refine ⟨t.2.1, valV_pos (by rw [key_inl]; exact e), ?_⟩
      rw [← e]; exact List.mem_cons_self ..
    · rw [if_neg e] at h
      obtain ⟨v, h1, h2⟩ := di_get h
      exact ⟨v, (valV_neg (by rw [key_inl]; exact e)).trans h1, List.mem_cons_of_mem _ h2⟩
theorem di_none {x : Int} : ∀ {L : DI β}, lkD L x = none → valV (diK L) (Sum.inl x) = none
  | [], _ => rfl
  | t :: L, h => by
    rw [lkD_cons] at h
    show valV ((Sum.inl t.1, t.2.1) :: diK L) (Sum.inl x) = none
    by_cases e : t.1 = x
    · rw [if_pos e] at h; cases h
    · rw [if_neg e] at h
      exact (valV_neg (by rw [key_inl]; exact e)).trans (di_none h)
theorem di_put (L : DI β) (x : Int) (v : V) (d : β) : putK (diK L) (Sum.inl x) v = diK (ptD L x v d) := by
  have e : ((diK L).any fun kv => decide (kv.1 = Sum.inl x)) = (L.any fun t => decide (t.1 = x)) := by
    unfold diK
    rw [List.any_map]
    congr 1
    funext t
    simp only [Function.comp, key_inl]
  unfold putK ptD
  rw [e]
  by_cases a : (L.any fun t => decide (t.1 = x)) = true
  · rw [if_pos a, if_pos a]
    unfold diK
    rw [List.map_map, List.map_map]
    congr 1
    funext t
    simp only [Function.comp, key_inl]
    by_cases h : t.1 = x
    · rw [if_pos h, if_pos h]
    · rw [if_neg h, if_neg h]
  · rw [if_neg a, if_neg a]
    unfold diK
    rw [List.map_append]; rfl
theorem lkD_any (x : Int) : ∀ L : DI β, (L.any fun t => decide (t.1 = x)) = (lkD L x).isSome
  | [] => rfl
  | t :: L => by
    rw [List.any_cons, lkD_any x L, lkD_cons]
    by_cases e : t.1 = x
    · simp [e]
    · simp [e]
theorem lkD_repl (x y : Int) (v : V) (d : β) : ∀ L : DI β, lkD (L.map fun t => if t.1 = x then (t.1, v, d) else t) y = (lkD L y).map fun z => if y = x then d else z
  | [] => rfl
  | t :: L => by
    rw [List.map_cons, lkD_cons, lkD_cons, lkD_repl x y v d L]
    by_cases e : t.1 = x
    · rw [if_pos e]
      by_cases f : t.1 = y
      · rw [if_pos f, if_pos f, ← f, Option.map_some, if_pos e]
      · rw [if_neg f, if_neg f]
    · rw [if_neg e]
      by_cases f : t.1 = y
      · rw [if_pos f, if_pos f, Option.map_some, if_neg (by rw [← f]; exact e)]
      · rw [if_neg f, if_neg f]
theorem lkD_snoc (x y : Int) (v : V) (d : β) : ∀ L : DI β, lkD (L ++ [(x, v, d)]) y = (lkD L y).or (if x = y then some d else none)
  | [] => by
    rw [List.nil_append, lkD_cons]
    rfl
  | t :: L => by
    rw [List.cons_append, lkD_cons, lkD_cons, lkD_snoc x y v d L]
    by_cases f : t.1 = y
    · rw [if_pos f, if_pos f]; rfl
    · rw [if_neg f, if_neg f]
theorem lkD_put (L : DI β) (x y : Int) (v : V) (d : β) : lkD (ptD L x v d) y = if y = x then some d else lkD L y := by
  unfold ptD
  by_cases a : (L.any fun t => decide (t.1 = x)) = true
  · rw [if_pos a, lkD_repl]
    by_cases e : y = x
    · rw [if_pos e, e]
      rw [lkD_any] at a
      obtain ⟨z, hz⟩ := Option.isSome_iff_exists.mp a
      rw [hz, Option.map_some, if_pos rfl]
    · rw [if_neg e]
      cases lkD L y with
      | none => rfl
      | some z => rw [Option.map_some, if_neg e]
  · rw [if_neg a, lkD_snoc]
    rw [lkD_any] at a
    by_cases e : y = x
    · rw [if_pos e, e, if_pos rfl]
      cases h : lkD L x with
      | none => rfl
      | some z => rw [h] at a; exact absurd rfl a
    · rw [if_neg e, if_neg (fun z => e z.symm)]
      cases lkD L y <;> rfl
theorem DiIs.put [Dat β] {H : Hp} {L : DI β} {x : Int} {v : V} {d : β} (h : DiIs H L) (k : Is H v d) : DiIs H (ptD L x v d) := fun t m => by
  unfold ptD at m
  split at m
  · obtain ⟨t0, m0, rfl⟩ := List.mem_map.mp m
    have z := h t0 m0
    show Is H (if t0.1 = x then (t0.1, v, d) else t0).2.1 (if t0.1 = x then (t0.1, v, d) else t0).2.2
    split
    · exact k
    · exact z
  · rcases List.mem_append.mp m with m | m
    · exact h t m
    · rw [List.mem_singleton.mp m]; exact k
theorem ptD_len (L : DI β) (x : Int) (v : V) (d : β) : (ptD L x v d).length ≤ L.length + 1 := by
  unfold ptD
  split
  · rw [List.length_map]; omega
  · rw [List.length_append]; exact Nat.le_refl _
theorem diK_len (L : DI β) : (diK L).length = L.length := List.length_map ..
/-- no key twice -/
def NdI (L : DI β) : Prop := (L.map (·.1)).Nodup
theorem lkD_mem {L : DI β} {x : Int} : x ∈ L.map (·.1) ↔ lkD L x ≠ none := by
  induction L with
  | nil => simp [lkD]
  | cons t L ih =>
    rw [List.map_cons, List.mem_cons, ih, lkD_cons]
    by_cases e : t.1 = x
    · rw [if_pos e]; simp [e]
    · rw [if_neg e]
      constructor
      · rintro (z | z)
        · exact absurd z.symm e
        · exact z
      · exact .inr
theorem NdI.put {L : DI β} {x : Int} {v : V} {d : β} (h : NdI L) : NdI (ptD L x v d) := by
  unfold NdI ptD at *
  by_cases a : (L.any fun t => decide (t.1 = x)) = true
  · rw [if_pos a, List.map_map]
    have e : ((fun t : Int × V × β => t.1) ∘ fun t => if t.1 = x then (t.1, v, d) else t) = fun t => t.1 := by
      funext t
      show (if t.1 = x then (t.1, v, d) else t).1 = t.1
      split <;> rfl
    rw [e]; exact h
  · rw [if_neg a, List.map_append, List.nodup_append]
    refine ⟨h, by simp, fun y hy z hz e => a ?_⟩
    rw [List.map_cons, List.map_nil, List.mem_singleton] at hz
    rw [lkD_any]
    cases q : lkD L x with
    | some _ => rfl
    | none =>
      rw [e, hz] at hy
      exact absurd q (lkD_mem.mp hy)
end
/-! ### a walk by blocks, its methods -/
def sdB (b : Bool) : Int := if b then 1 else -1
theorem sdB_way {wa : Int} (h : wa = -1 ∨ wa = 1) : sdB (decide (-wa = 1)) = -wa := by
  rcases h with rfl | rfl <;> decide
/-- (0,) times a number from 1 on -/
def rRepA (K : PySem.W.Frag) : R2 := fun x y H Q => ∃ l xs k, x = .ref l ∧ y = .int k ∧ SqT K H l xs ∧ xs ≠ [] ∧ 1 ≤ k ∧ k ≤ 1000 ∧ xs.length ≤ 1000 ∧ (k = 1 → Q (.ref l) H) ∧ (2 ≤ k → ∀ p, H p = none → Q (.ref p) (upd H p (.tup (List.replicate k.toNat xs).flatten)))
theorem op_repA {X : Cx} : OpR X (binaryOp .Mult) (rRepA X.K) := by
  intro pins s σ H x y v u Q I rx ry h
  obtain ⟨l, xs, k, e1, e2, hT, hne, k1, k2, hl, q1, q2⟩ := h
  by_cases c : k = 1
  · exact op_rep01 pins s σ H x y v u Q I rx ry ⟨l, k, xs, e1, e2, hT, hne, .inl ⟨c, q1 c⟩⟩
  · exact op_repT pins s σ H x y v u Q I rx ry ⟨l, k, xs, e1, e2, hT, hne, by omega, k2, hl, q2 (by omega)⟩
theorem flat_one (k : Nat) : (List.replicate k [V.int 0]).flatten = (List.replicate k (0 : Int)).map V.int := by
  induction k with
  | zero => rfl
  | succ k ih => rw [List.replicate_succ, List.replicate_succ, List.flatten_cons, List.map_cons, ih]; rfl
structure WkAt (C : Addr) (F H : Hp) (o d : Addr) (k : Nat) (L : DI (Tup Int)) (W : Wk) : Prop where
  ob : ∃ dx, H o = some (.ins C dx (Walk_F (.int k) (.ref d) (.int W.at_) (.int W.row) (.int (sdB W.far)) (.int W.st)))
  dd : H d = some (.dK (diK L))
  is : DiIs F L
  nd : NdI L
  bl : ∀ a, W.B a = ((lkD L a).map Tup.l).getD (List.replicate k 0)
section
variable {C : Addr} {F H F' H' : Hp} {o d : Addr} {k : Nat} {L : DI (Tup Int)} {W : Wk} {mu : Addr → Prop}
theorem WkAt.ne (h : WkAt C F H o d k L W) : o ≠ d := by
  obtain ⟨dx, e⟩ := h.ob
  exact ne_of e h.dd (by intro z; cases z)
theorem WkAt.gr (h : WkAt C F H o d k L W) (a : Gr mu F H F' H') (ho : ¬ mu o) (hd : ¬ mu d) : WkAt C F' H' o d k L W := by
  obtain ⟨dx, e⟩ := h.ob
  exact ⟨⟨dx, a.fr _ _ e ho⟩, a.fr _ _ h.dd hd, h.is.up a.ff, h.nd, h.bl⟩
end
def muW (o d : Addr) : Addr → Prop := fun c => c = o ∨ c = d
def sp_Walk_init (C : Addr) : Sp := fun vs H Q _ => ∃ (F : Hp) (o dx : Addr) (k : Nat), vs = [.ref o, .int k] ∧ H o = some (.ins C dx []) ∧ F o = none ∧ Same F H ∧
  ∀ (d : Addr) (H' : Hp), H d = none → Gr (muP o) F H F H' → WkAt C F H' o d k [] (W0 k) → Q .non H'
theorem ok_Walk_init (t : Tx K mg) : FnOk P w K mg base CX0 1 t.a_Walk_init t.fd_Walk_init ["self", "long"] (sp_Walk_init t.C_Walk) := by
  refine t.F_Walk_init.ok sc_Walk_init (fun vs H Q E h => ?_) (fun cdv A outer s H vs Q E hr h => ?_)
  · obtain ⟨F, o, dx, k, rfl, _⟩ := h
    rfl
  · obtain ⟨F, o, dx, k, rfl, ho, fo, sF, q⟩ := h
    refine ⟨_, (pss_cons (ps_fld (pv 0) (pv 1) rfl)
      (pss_cons (ps_fld (pv 0) pe_dnewK rfl)
      (pss_cons (ps_fld (pv 0) pe_int rfl)
      (pss_cons (ps_fld (pv 0) pe_int rfl)
      (pss_cons (ps_fld (pv 0) (pe_un un_neg pe_int) rfl)
      (pss_one (ps_fld (pv 0) pe_int rfl))))))), ?_⟩
    have g0 : Gr (muP o) F H F H := Gr.refl sF
    refine ⟨_, rfl, _, rfl, o, t.C_Walk, dx, [], rfl, ho, t.cl_Walk, t.nA_Walk_long, by show 0 < 1000; decide, ?_⟩
    have g1 := g0.set (o := .ins t.C_Walk dx [("long", .int k)]) fo (.inr rfl)
    rw [Walk_mk0]
    refine fun d nd => ?_
    have od : o ≠ d := ne_of_none upd_same nd
    have g2 := g1.own (o := .dK (diK ([] : DI (Tup Int)))) nd
    have ho2 := ln (u := .dK (diK ([] : DI (Tup Int)))) nd (upd_same (H := H) (a := o) (o := .ins t.C_Walk dx [("long", .int k)]))
    refine ⟨_, rfl, o, t.C_Walk, dx, _, rfl, ho2, t.cl_Walk, t.nA_Walk_blocks, by show 1 < 1000; decide, ?_⟩
    rw [Walk_mk1]
    have g3 := g2.set (o := .ins t.C_Walk dx [("long", .int k), ("blocks", .ref d)]) fo (.inr rfl)
    refine ⟨_, rfl, o, t.C_Walk, dx, _, rfl, upd_same, t.cl_Walk, t.nA_Walk_at, by show 2 < 1000; decide, ?_⟩
    rw [Walk_mk2]
    have g4 := g3.set (o := .ins t.C_Walk dx [("long", .int k), ("blocks", .ref d), ("at", .int 0)]) fo (.inr rfl)
    refine ⟨_, rfl, o, t.C_Walk, dx, _, rfl, upd_same, t.cl_Walk, t.nA_Walk_row, by show 3 < 1000; decide, ?_⟩
    rw [Walk_mk3]
    have g5 := g4.set (o := .ins t.C_Walk dx [("long", .int k), ("blocks", .ref d), ("at", .int 0), ("row", .int 0)]) fo (.inr rfl)
    refine ⟨_, rfl, _, rfl, o, t.C_Walk, dx, _, rfl, upd_same, t.cl_Walk, t.nA_Walk_side, by show 4 < 1000; decide, ?_⟩
    rw [Walk_mk4]
    have g6 := g5.set (o := .ins t.C_Walk dx [("long", .int k), ("blocks", .ref d), ("at", .int 0), ("row", .int 0), ("side", .int (-1))]) fo (.inr rfl)
    refine ⟨_, rfl, o, t.C_Walk, dx, _, rfl, upd_same, t.cl_Walk, t.nA_Walk_steps, by show 5 < 1000; decide, ?_⟩
    rw [Walk_mk5]
    have g7 := g6.set (o := .ins t.C_Walk dx [("long", .int k), ("blocks", .ref d), ("at", .int 0), ("row", .int 0), ("side", .int (-1)), ("steps", .int 0)]) fo (.inr rfl)
    refine q d _ (by
      have n2 := nd
      by_cases e : d = o
      · exact absurd e.symm od
      · rw [upd_ne e] at n2; exact n2) g7 ⟨⟨dx, upd_same⟩, ?_, fun z m => (nomatch m), List.nodup_nil, fun a => rfl⟩
    rw [upd_ne od.symm, upd_ne od.symm, upd_ne od.symm, upd_ne od.symm, upd_ne od.symm, upd_same]
    rfl
def sp_Walk_block (C : Addr) : Sp := fun vs H Q _ => ∃ (F : Hp) (o d : Addr) (k : Nat) (L : DI (Tup Int)) (W : Wk), vs = [.ref o] ∧ Same F H ∧ WkAt C F H o d k L W ∧ 1 ≤ k ∧ k ≤ 10 ∧
  ∀ (F' H' : Hp) (b : Addr), Gr mu0 F H F' H' → F' b = some (.tup ((W.B W.at_).map V.int)) → Q (.ref b) H'
theorem ok_Walk_block (t : Tx K mg) : FnOk P w K mg base CX0 1 t.a_Walk_block t.fd_Walk_block ["self"] (sp_Walk_block t.C_Walk) := by
  refine t.F_Walk_block.ok sc_Walk_block (fun vs H Q E h => ?_) (fun cdv A outer s H vs Q E hr h => ?_)
  · obtain ⟨F, o, d, k, L, W, rfl, _⟩ := h
    rfl
  · obtain ⟨F, o, d, k, L, W, rfl, sF, hW, k1, k10, q⟩ := h
    refine ⟨_, (pss_one (ps_ret (pe_dget2 (hu_of hr) (pe_fld (pv 0) rfl) (pe_fld (pv 0) rfl) (pe_op op_repA (pe_tup (pa_cons pe_int pa_nil)) (pe_fld (pv 0) rfl)) ⟨by rfl, by rfl, by rfl, by rfl⟩))), ?_⟩
    obtain ⟨dx, ho⟩ := hW.ob
    have g0 : Gr mu0 F H F H := Gr.refl sF
    have hb := hW.bl W.at_
    refine ⟨_, rfl, o, t.C_Walk, dx, _, _, rfl, ho, t.cl_Walk, t.nA_Walk_blocks, Walk_get_blocks, d, rfl, .inl ⟨_, .inl hW.dd⟩, _, rfl, o, t.C_Walk, dx, _, _, rfl, ho, t.cl_Walk, t.nA_Walk_at, Walk_get_at, ?_⟩
    refine ⟨one_le, fun p np => ⟨_, rfl, o, t.C_Walk, dx, _, _, rfl, ln np ho, t.cl_Walk, t.nA_Walk_long, Walk_get_long, p, [.int 0], k, rfl, rfl, SqT.of upd_same, (fun z => nomatch z), by omega, by omega, by decide, fun e => ?_, fun _ r nr => ?_⟩⟩
    · have g1 := g0.new (o := .tup [.int 0]) np
      refine ⟨_, DGet.k (k := Sum.inl W.at_) (ln np hW.dd), ?_⟩
      cases el : lkD L W.at_ with
      | none =>
        rw [di_none el]
        rw [el] at hb
        refine q _ _ p g1 ?_
        rw [hb, show k = 1 by omega]
        exact upd_same
      | some s =>
        obtain ⟨v, h1, h2⟩ := di_get el
        rw [h1]
        rw [el] at hb
        obtain ⟨a, xs, e3, h3, h4⟩ := hW.is _ h2
        rw [show v = V.ref a from e3]
        refine q _ _ a g1 (g1.ff _ _ ?_)
        rw [h3, hb, ints_of h4]; rfl
    · have g1 := (g0.own (o := .tup [.int 0]) np).new (o := .tup (List.replicate (k : Int).toNat [V.int 0]).flatten) nr
      refine ⟨_, DGet.k (k := Sum.inl W.at_) (ln nr (ln np hW.dd)), ?_⟩
      cases el : lkD L W.at_ with
      | none =>
        rw [di_none el]
        rw [el] at hb
        refine q _ _ r g1 ?_
        rw [upd_same, hb, Int.toNat_natCast, flat_one]; rfl
      | some s =>
        obtain ⟨v, h1, h2⟩ := di_get el
        rw [h1]
        rw [el] at hb
        obtain ⟨a, xs, e3, h3, h4⟩ := hW.is _ h2
        rw [show v = V.ref a from e3]
        refine q _ _ a g1 (g1.ff _ _ ?_)
        rw [h3, hb, ints_of h4]; rfl
def sp_Walk_place (C : Addr) : Sp := fun vs H Q _ => ∃ (F : Hp) (o d : Addr) (k : Nat) (L : DI (Tup Int)) (W : Wk), vs = [.ref o] ∧ WkAt C F H o d k L W ∧ k ≤ 10 ∧ Q (.int (plB k W)) H
theorem ok_Walk_place (t : Tx K mg) : FnOk P w K mg base CX0 1 t.a_Walk_place t.fd_Walk_place ["self"] (sp_Walk_place t.C_Walk) := by
  refine t.F_Walk_place.ok sc_Walk_place (fun vs H Q E h => ?_) (fun cdv A outer s H vs Q E hr h => ?_)
  · obtain ⟨F, o, d, k, L, W, rfl, _⟩ := h
    rfl
  · obtain ⟨F, o, d, k, L, W, rfl, hW, k10, q⟩ := h
    refine ⟨_, (pss_cons (ps_if (pt_cmpR op_eq (pe_fld (pv 0) rfl) (pe_un un_neg pe_int) (nomark _)) (pss_one (ps_ret (pe_op op_mul (pe_fld (pv 0) rfl) (pe_fld (pv 0) rfl)))) pss_nil)
      (pss_one (ps_ret (pe_op op_sub (pe_op op_add (pe_op op_mul (pe_fld (pv 0) rfl) (pe_fld (pv 0) rfl)) (pe_fld (pv 0) rfl)) pe_int)))), ?_⟩
    obtain ⟨dx, ho⟩ := hW.ob
    refine ⟨_, rfl, o, t.C_Walk, dx, _, _, rfl, ho, t.cl_Walk, t.nA_Walk_side, Walk_get_side, _, rfl, rfl, _, rfl, ?_⟩
    rw [int_eq2]
    unfold plB at q
    cases hf : W.far with
    | false =>
      rw [hf] at q
      have q : Q (.int (W.at_ * k + 0)) H := q
      rw [Int.add_zero] at q
      exact ifT (by decide) ⟨_, rfl, o, t.C_Walk, dx, _, _, rfl, ho, t.cl_Walk, t.nA_Walk_at, Walk_get_at, _, rfl, o, t.C_Walk, dx, _, _, rfl, ho, t.cl_Walk, t.nA_Walk_long, Walk_get_long, _, _, rfl, rfl, .inr ⟨by omega, by omega⟩, q⟩
    | true =>
      rw [hf] at q
      have q : Q (.int (W.at_ * k + ((k : Int) - 1))) H := q
      refine ifF (by decide) ⟨_, rfl, o, t.C_Walk, dx, _, _, rfl, ho, t.cl_Walk, t.nA_Walk_at, Walk_get_at, _, rfl, o, t.C_Walk, dx, _, _, rfl, ho, t.cl_Walk, t.nA_Walk_long, Walk_get_long, _, _, rfl, rfl, .inr ⟨by omega, by omega⟩, _, rfl, o, t.C_Walk, dx, _, _, rfl, ho, t.cl_Walk, t.nA_Walk_long, Walk_get_long, _, _, rfl, rfl, _, _, rfl, rfl, ?_⟩
      rw [show W.at_ * (k : Int) + ((k : Int) - 1) = W.at_ * (k : Int) + (k : Int) - 1 by omega] at q
      exact q
def sp_Walk_out (C : Addr) : Sp := fun vs H Q _ => ∃ (F : Hp) (o d p b : Addr) (k : Nat) (L : DI (Tup Int)) (W : Wk) (wd : TStr) (s : List Int) (r wa m : Int), vs = [.ref o, .ref p] ∧ Same F H ∧ WkAt C F H o d k L W ∧ F o = none ∧ F d = none ∧ L.length ≤ 5000 ∧ (wa = -1 ∨ wa = 1) ∧
  F p = some (.tup [.str wd.x, .ref b, .int r, .int wa, .int m]) ∧ F b = some (.tup (s.map V.int)) ∧ ∀ H' : Hp, Gr (muW o d) F H F H' → WkAt C F H' o d k (ptD L W.at_ (.ref b) ⟨s⟩) (W.out s r wa m) → Q .non H'
theorem ok_Walk_out (t : Tx K mg) : FnOk P w K mg base CX0 1 t.a_Walk_out t.fd_Walk_out ["self", "found"] (sp_Walk_out t.C_Walk) := by
  refine t.F_Walk_out.ok sc_Walk_out (fun vs H Q E h => ?_) (fun cdv A outer s H vs Q E hr h => ?_)
  · obtain ⟨F, o, d, p, b, k, L, W, wd, s, r, wa, m, rfl, _⟩ := h
    rfl
  · obtain ⟨F, o, d, p, b, k, L, W, wd, s, r, wa, m, rfl, sF, hW, fo, fd, hl, hw, hp, hb, q⟩ := h
    refine ⟨_, (pss_cons (ps_asg (pv 1) (pg_tup rfl (pgs_cons (pg_name (i := 2) sc_Walk_out.nd rfl (by first | exact Or.inl rfl | exact Or.inr rfl)) (pgs_cons (pg_name (i := 3) sc_Walk_out.nd rfl (by first | exact Or.inl rfl | exact Or.inr rfl)) (pgs_cons (pg_name (i := 4) sc_Walk_out.nd rfl (by first | exact Or.inl rfl | exact Or.inr rfl)) (pgs_cons (pg_name (i := 5) sc_Walk_out.nd rfl (by first | exact Or.inl rfl | exact Or.inr rfl)) (pgs_cons (pg_name (i := 6) sc_Walk_out.nd rfl (by first | exact Or.inl rfl | exact Or.inr rfl)) pgs_nil)))))))
      (pss_cons (ps_dput (hu_of hr) (pe_fld (pv 0) rfl) (pe_fld (pv 0) rfl) (pv 3) rfl)
      (pss_cons (ps_fldaug (pv 0) (pv 5) in_add)
      (pss_cons (ps_fld (pv 0) (pv 4) rfl)
      (pss_cons (ps_fld (pv 0) (pe_un un_neg (pv 5)) rfl)
      (pss_one (ps_fldaug (pv 0) (pv 6) in_add))))))), ?_⟩
    obtain ⟨dx, ho⟩ := hW.ob
    have od := hW.ne
    have g0 : Gr (muW o d) F H F H := Gr.refl sF
    refine ⟨_, rfl, p, _, rfl, SqT.of (sF _ _ hp), rfl, _, _, rfl, _, _, rfl, _, _, rfl, _, _, rfl, _, _, rfl, rfl, ?_⟩
    refine ⟨_, rfl, _, rfl, o, t.C_Walk, dx, _, _, rfl, ho, t.cl_Walk, t.nA_Walk_blocks, Walk_get_blocks, _, rfl, o, t.C_Walk, dx, _, _, rfl, ho, t.cl_Walk, t.nA_Walk_at, Walk_get_at, d, _, rfl, DPut.k (k := Sum.inl W.at_) hW.dd (by rw [diK_len]; exact lt_size (by omega)), ?_⟩
    rw [di_put L W.at_ (.ref b) (⟨s⟩ : Tup Int)]
    have g1 := g0.set (o := .dK (diK (ptD L W.at_ (.ref b) (⟨s⟩ : Tup Int)))) fd (.inr (.inr rfl))
    have ho1 := (upd_ne (H := H) (o := .dK (diK (ptD L W.at_ (.ref b) (⟨s⟩ : Tup Int)))) od).trans ho
    refine ⟨_, rfl, o, t.C_Walk, dx, _, _, rfl, ho1, t.cl_Walk, t.nA_Walk_at, Walk_get_at, _, rfl, _, _, rfl, rfl, _, _, ho1, Walk_few, ?_⟩
    rw [Walk_put_at]
    have g2 := g1.set (o := .ins t.C_Walk dx (Walk_F (.int k) (.ref d) (.int (W.at_ + wa)) (.int W.row) (.int (sdB W.far)) (.int W.st))) fo (.inr (.inl rfl))
    refine ⟨_, rfl, _, rfl, o, t.C_Walk, dx, _, rfl, upd_same, t.cl_Walk, t.nA_Walk_row, Walk_few, ?_⟩
    rw [Walk_put_row]
    have g3 := g2.set (o := .ins t.C_Walk dx (Walk_F (.int k) (.ref d) (.int (W.at_ + wa)) (.int r) (.int (sdB W.far)) (.int W.st))) fo (.inr (.inl rfl))
    refine ⟨_, rfl, _, rfl, _, rfl, o, t.C_Walk, dx, _, rfl, upd_same, t.cl_Walk, t.nA_Walk_side, Walk_few, ?_⟩
    rw [Walk_put_side]
    have g4 := g3.set (o := .ins t.C_Walk dx (Walk_F (.int k) (.ref d) (.int (W.at_ + wa)) (.int r) (.int (-wa)) (.int W.st))) fo (.inr (.inl rfl))
    refine ⟨_, rfl, o, t.C_Walk, dx, _, _, rfl, upd_same, t.cl_Walk, t.nA_Walk_steps, Walk_get_steps, _, rfl, _, _, rfl, rfl, _, _, upd_same, Walk_few, ?_⟩
    rw [Walk_put_steps]
    have g5 := g4.set (o := .ins t.C_Walk dx (Walk_F (.int k) (.ref d) (.int (W.at_ + wa)) (.int r) (.int (-wa)) (.int (W.st + m)))) fo (.inr (.inl rfl))
    refine q _ g5 ⟨⟨dx, ?_⟩, ?_, hW.is.put ⟨b, _, rfl, hb, all_ints s⟩, hW.nd.put, fun a => ?_⟩
    · show _ = some (HO.ins t.C_Walk dx (Walk_F (.int k) (.ref d) (.int (W.at_ + wa)) (.int r) (.int (sdB (decide (-wa = 1)))) (.int (W.st + m))))
      rw [sdB_way hw]; exact upd_same
    · rw [upd_ne od.symm, upd_ne od.symm, upd_ne od.symm, upd_ne od.symm, upd_same]
    · show updB W.B W.at_ s a = _
      rw [lkD_put]
      unfold updB
      by_cases e : a = W.at_
      · rw [if_pos e, if_pos e]; rfl
      · rw [if_neg e, if_neg e]; exact hW.bl a
def sp_Walk_strip (C : Addr) : Sp := fun vs H Q _ => ∃ (F : Hp) (o d : Addr) (k : Nat) (L : DI (Tup Int)) (W : Wk), vs = [.ref o] ∧ Same F H ∧ WkAt C F H o d k L W ∧ 1 ≤ k ∧ k ≤ 10 ∧ L.length ≤ 5000 ∧ (∀ a, (W.B a).length = k) ∧
  ∀ (F' H' : Hp) (l : Addr) (xs : List V) (z : List PI), Gr mu0 F H F' H' → Ow H F' H' l (.lst xs) → IsAll F' xs z → IsSt z (fB k W.B) → Q (.ref l) H'
theorem lkD_of {β : Type} {L : DI β} {x : Int} (h : x ∈ L.map (·.1)) : ∃ d, lkD L x = some d := by
  cases e : lkD L x with
  | none => exact absurd e (lkD_mem.mp h)
  | some d => exact ⟨d, rfl⟩
theorem piece_take {s : List Int} {base : Int} {j : Nat} {v : Int} (h : s[j]? = some v) : piece base (s.take (j + 1)) = piece base (s.take j) ++ (if v ≠ 0 then [⟨base + j, v⟩] else []) := by
  have l := (List.getElem?_eq_some_iff.mp h).1
  rw [List.take_add_one, h]
  show piece base (s.take j ++ [v]) = _
  rw [piece_snoc, List.length_take, Nat.min_eq_left (by omega)]
theorem stripO_snoc (k : Nat) (B : Int → List Int) (ys : List Int) (a : Int) : stripO k B (ys ++ [a]) = stripO k B ys ++ piece (a * k) (B a) := by
  unfold stripO
  rw [List.flatMap_append]
  congr 1
  show piece (a * k) (B a) ++ [] = _
  rw [List.append_nil]
theorem len_stripO {k : Nat} {B : Int → List Int} (hB : ∀ a, (B a).length = k) : ∀ ys : List Int, (stripO k B ys).length ≤ k * ys.length
  | [] => Nat.zero_le _
  | y :: ys => by
    have ih := len_stripO hB ys
    have lp : ∀ (s : List Int) (b : Int), (piece b s).length ≤ s.length := fun s => by
      induction s with
      | nil => intro b; exact Nat.zero_le _
      | cons x s ih => intro b; rw [piece, List.length_append]; have := ih (b + 1); split <;> simp <;> omega
    have h := lp (B y) (y * k)
    rw [hB] at h
    show (piece (y * k) (B y) ++ stripO k B ys).length ≤ _
    rw [List.length_append, List.length_cons, Nat.mul_add, Nat.mul_one]
    omega
theorem ok_Walk_strip (t : Tx K mg) : FnOk P w K mg base CX0 1 t.a_Walk_strip t.fd_Walk_strip ["self"] (sp_Walk_strip t.C_Walk) := by
  refine t.F_Walk_strip.ok sc_Walk_strip (fun vs H Q E h => ?_) (fun cdv A outer s H vs Q E hr h => ?_)
  · obtain ⟨F, o, d, k, L, W, rfl, _⟩ := h
    rfl
  · obtain ⟨F, o, d, k, L, W, rfl, sF, hW, k1, k10, hL, hB, q⟩ := h
    refine ⟨_, (pss_cons (ps_set (i := 1) sc_Walk_strip.nd rfl (by first | exact Or.inl rfl | exact Or.inr rfl) (pe_lst pa_nil))
      (pss_cons (ps_for PassesOwn.never rfl (pi_list (pe_callB (id := "sorted") (call_sortDI rfl) (by rfl) t.n_sorted (by decide +kernel) (pa_cons (pe_fld (pv 0) rfl) pa_nil))) (pg_name (i := 2) sc_Walk_strip.nd rfl (by first | exact Or.inl rfl | exact Or.inr rfl)) (pss_one (ps_for PassesOwn.never rfl (pi_enT (by rfl) t.n_enumerate (pa_cons (pe_dget (hu_of hr) (pe_fld (pv 0) rfl) (pv 2) (fun _ _ => rfl)) pa_nil)) (pg_tup rfl (pgs_cons (pg_name (i := 3) sc_Walk_strip.nd rfl (by first | exact Or.inl rfl | exact Or.inr rfl)) (pgs_cons (pg_name (i := 4) sc_Walk_strip.nd rfl (by first | exact Or.inl rfl | exact Or.inr rfl)) pgs_nil))) (pss_one (ps_if (pt_cmpR op_ne (pv 4) pe_int (nomark _)) (pss_one (ps_expr (pe_bm PySem.F.plainAttrs_list PySem.F.slot_list_append PySem.F.type_list_append mt_append (pv 1) (pa_cons (pe_tup (pa_cons (pe_op op_add (pe_op op_mul (pv 2) (pe_fld (pv 0) rfl)) (pv 3)) (pa_cons (pv 4) pa_nil))) pa_nil)))) pss_nil)))))
      (pss_one (ps_ret (pv 1))))), ?_⟩
    obtain ⟨dx, ho⟩ := hW.ob
    have g0 : Gr mu0 F H F H := Gr.refl sF
    refine ⟨nil_le, fun D nD => ?_⟩
    have g1 := g0.own (o := .lst []) nD
    have w1 : Ow H F (upd H D (.lst [])) D (.lst []) := Ow.mk1 g0 nD
    have W1 := hW.gr ((Gr.refl (mu := mu0) sF).own (o := .lst []) nD) (fun z => z) (fun z => z)
    generalize upd H D (.lst []) = H1 at g1 w1 W1 ⊢
    obtain ⟨dx, ho1⟩ := W1.ob
    refine ⟨_, rfl, o, t.C_Walk, dx, _, _, rfl, ho1, t.cl_Walk, t.nA_Walk_blocks, Walk_get_blocks, ?_⟩
    unfold rSortDI
    refine ⟨d, diK L, L.map (·.1), rfl, .inl W1.dd, by unfold diK; rw [List.map_map, List.map_map]; rfl, fun ys p hperm hsort np => ?_⟩
    have g2 := g1.own (o := .lst (ys.map V.int)) np
    have w2 := w1.own (u := .lst (ys.map V.int)) np
    have W2 := W1.gr ((Gr.refl (mu := mu0) g1.fh).own (o := .lst (ys.map V.int)) np) (fun z => z) (fun z => z)
    have Dp' : D ≠ p := w1.ne np
    have hp2 : (upd H1 p (.lst (ys.map V.int))) p = some (.lst (ys.map V.int)) := upd_same
    generalize upd H1 p (.lst (ys.map V.int)) = H2 at g2 w2 W2 hp2 ⊢
    have ylen : ys.length ≤ 5000 := by rw [hperm.length_eq, List.length_map]; exact hL
    have ynd : ys.Nodup := hperm.nodup_iff.mpr W1.nd
    have yst : ys.Pairwise (· < ·) := by
      have z : ys.Pairwise (fun a b => a ≤ b ∧ a ≠ b) := List.Pairwise.and hsort ynd
      exact z.imp fun {a b} h => by omega
    refine ⟨p, rfl, ⟨_, SqL.of hp2⟩, for_list (K := K) (a := p) (xs := ys.map V.int) (fun i σ G => ∃ (F1 : Hp) (xs : List V) (v2 v3 v4 : Option V), σ = [some (.ref o), some (.ref D), v2, v3, v4] ∧ Gr mu0 F H F1 G ∧ WkAt t.C_Walk F1 G o d k L W ∧ Ow H F1 G D (.lst xs) ∧ IsAll F1 xs (stripO k W.B (ys.take i)) ∧ G p = some (.lst (ys.map V.int)) ∧ F1 p = none)
      ⟨F, [], none, none, none, rfl, g2, W2, w2, All2.nil, hp2, g1.fh.free np⟩ (fun i σ G _ ⟨F1, xs, v2, v3, v4, _, _, _, _, _, hp, _⟩ => SqL.of hp) ?_ ?_⟩
    · rintro i x σ G hi ⟨F1, xs, v2, v3, v4, rfl, g, Wg, w, al, hp, fp⟩
      rw [List.getElem?_map] at hi
      obtain ⟨a, hy, rfl⟩ := Option.map_eq_some_iff.mp hi
      have il : i < ys.length := (List.getElem?_eq_some_iff.mp hy).1
      obtain ⟨dx, ho⟩ := Wg.ob
      obtain ⟨s, el⟩ := lkD_of (L := L) (x := a) (hperm.mem_iff.mp (List.mem_of_getElem? hy))
      obtain ⟨v, h1, h2⟩ := di_get el
      obtain ⟨ra, es, e3, h3, h4⟩ := Wg.is _ h2
      have e3 : v = .ref ra := e3
      subst e3
      have es' := ints_of h4
      have eB : W.B a = s.l := by rw [Wg.bl, el]; rfl
      subst es'
      have ls : s.l.length = k := by rw [← eB]; exact hB a
      refine ⟨_, rfl, o, t.C_Walk, dx, _, _, rfl, ho, t.cl_Walk, t.nA_Walk_blocks, Walk_get_blocks, _, rfl, d, _, rfl, (by have z := DGet.k (k := Sum.inl a) Wg.dd; rw [h1] at z; exact z), ra, _, rfl, SqT.of (g.fh _ _ h3), ?_⟩
      refine for_it (walk_enT (K := K) (a := ra) (xs := s.l.map V.int)) (fun j σ G => ∃ (F2 : Hp) (xs2 : List V) (v3 v4 : Option V), σ = [some (.ref o), some (.ref D), some (.int a), v3, v4] ∧ Gr mu0 F H F2 G ∧ Same F1 F2 ∧ WkAt t.C_Walk F2 G o d k L W ∧ Ow H F2 G D (.lst xs2) ∧ IsAll F2 xs2 (stripO k W.B (ys.take i) ++ piece (a * k) (s.l.take j)) ∧ G p = some (.lst (ys.map V.int)) ∧ F2 p = none)
        ⟨F1, xs, _, _, rfl, g, Same.refl F1, Wg, w, by rw [List.take_zero]; show IsAll F1 xs (_ ++ []); rw [List.append_nil]; exact al, hp, fp⟩ (fun j σ G _ ⟨F2, xs2, v3, v4, _, g2, s2, _⟩ => SqT.of (g2.fh _ _ (s2 _ _ h3))) ?_ ?_
      · rintro j x σ G G' hj ⟨F2, xs2, v3, v4, rfl, g2, s2, Wg2, w2, al2, hp2, fp2⟩ ⟨T, x1, x2, rfl, nT, rfl, hx1, hx2⟩
        rw [List.length_map] at hj
        have hx2 : (s.l.map V.int)[j]? = some x2 := hx2
        rw [List.getElem?_map] at hx2
        obtain ⟨u, hu, rfl⟩ := Option.map_eq_some_iff.mp hx2
        cases hx1
        have g3 := g2.own (o := .tup [.int j, .int u]) nT
        have w3 := w2.own (u := .tup [.int j, .int u]) nT
        have W3 := Wg2.gr ((Gr.refl (mu := mu0) g2.fh).own (o := .tup [.int j, .int u]) nT) (fun z => z) (fun z => z)
        have hp3 := ln (u := .tup [.int j, .int u]) nT hp2
        have hT : (upd G T (.tup [.int j, .int u])) T = some (.tup [.int j, .int u]) := upd_same
        generalize upd G T (.tup [.int j, .int u]) = G3 at g3 w3 W3 hp3 hT ⊢
        refine ⟨T, _, rfl, SqT.of hT, rfl, _, _, rfl, _, _, rfl, rfl, _, rfl, rfl, _, rfl, ?_⟩
        have len2 : xs2.length ≤ 60000 := by
          have e1 := len_stripO hB (ys.take i)
          have e2 : (piece (a * k) (s.l.take j)).length ≤ k := by
            have z := len_stripO (k := k) (B := fun _ => s.l) (fun _ => ls) [a]
            have z2 : (piece (a * k) (s.l.take j)).length ≤ (piece (a * k) s.l).length := by
              rw [← List.take_append_drop j s.l]
              have : ∀ (x y : List Int) (b : Int), (piece b x).length ≤ (piece b (x ++ y)).length := fun x y => by
                induction x with
                | nil => intro b; exact Nat.zero_le _
                | cons c x ih => intro b; rw [List.cons_append, piece, piece, List.length_append, List.length_append]; have := ih (b + 1); omega
              rw [List.take_append_drop]
              have := this (s.l.take j) (s.l.drop j) (a * k)
              rw [List.take_append_drop] at this
              exact this
            have z3 : (stripO k (fun _ => s.l) [a]).length = (piece (a * k) s.l).length := by
              show (piece (a * k) s.l ++ []).length = _
              rw [List.append_nil]
            rw [z3] at z
            simp only [List.length_cons, List.length_nil, Nat.zero_add, Nat.mul_one] at z
            omega
          rw [List.length_take] at e1
          have e3 : k * min i ys.length ≤ 10 * 5000 := Nat.mul_le_mul k10 (by omega)
          have := al2.1
          rw [List.length_append] at this
          omega
        by_cases uz : u = 0
        · refine ifF (by rw [uz]; rfl) ⟨F2, xs2, _, _, rfl, g3, s2, W3, w3, ?_, hp3, fp2⟩
          rw [piece_take hu, if_neg (by omega), List.append_nil]
          exact al2
        · refine ifT (by
            show (!decide (V.int u = V.int 0)) = true
            rw [int_eq2, decide_eq_false uz]; rfl) ?_
          obtain ⟨dx, ho3⟩ := W3.ob
          refine ⟨_, rfl, .inl ⟨rfl, _, SqL.of w3.h⟩, _, rfl, _, rfl, o, t.C_Walk, dx, _, _, rfl, ho3, t.cl_Walk, t.nA_Walk_long, Walk_get_long, _, _, rfl, rfl, .inr ⟨by omega, by omega⟩, _, rfl, _, _, rfl, rfl, _, rfl, two_le, fun y ny => ⟨D, xs2, _, rfl, rfl, ln ny w3.h, lt_size (by omega), ?_⟩⟩
          have g4 := g3.new (o := .tup [.int (a * k + j), .int u]) ny
          have w4 := w3.new (u := .tup [.int (a * k + j), .int u]) ny
          have W4 := W3.gr ((Gr.refl (mu := mu0) g3.fh).new (o := .tup [.int (a * k + j), .int u]) ny) (fun z => z) (fun z => z)
          have s4 : Same F2 (upd F2 y (.tup [.int (a * k + j), .int u])) := sm_new (Same.refl F2) (g3.fh.free ny)
          have hp4 := ln (u := .tup [.int (a * k + j), .int u]) ny hp3
          have fp4 : (upd F2 y (.tup [.int (a * k + j), .int u])) p = none := by
            rw [upd_ne (ne_of_none hp3 ny)]; exact fp2
          have iy : Is (upd F2 y (.tup [.int (a * k + j), .int u])) (.ref y) (⟨a * k + j, u⟩ : PI) := ⟨y, _, _, rfl, upd_same, rfl, rfl⟩
          have D1 : D ≠ o := fun e => by have := w4.n; rw [e] at this; obtain ⟨dx, hh⟩ := hW.ob; rw [hh] at this; cases this
          have D2 : D ≠ d := fun e => by have := w4.n; rw [e] at this; rw [hW.dd] at this; cases this
          refine ⟨_, xs2 ++ [.ref y], _, _, rfl, g4.set w4.f (.inl w4.n), fun c o h => s4 c o (s2 c o h), ?_, w4.set, ?_, by rw [upd_ne Dp'.symm]; exact hp4, fp4⟩
          · obtain ⟨dx, e⟩ := W4.ob
            exact ⟨⟨dx, by rw [upd_ne D1.symm]; exact e⟩, by rw [upd_ne D2.symm]; exact W4.dd, W4.is, W4.nd, W4.bl⟩
          · rw [piece_take hu, if_pos uz, ← List.append_assoc]
            exact (al2.up s4).app (All2.one iy)
      · rintro σ G ⟨F2, xs2, v3, v4, rfl, g2, s2, Wg2, w2, al2, hp2, fp2⟩
        refine ⟨F2, xs2, _, _, _, rfl, g2, Wg2, w2, ?_, hp2, fp2⟩
        rw [List.length_map, List.take_length] at al2
        rw [List.take_add_one, hy]
        show IsAll F2 xs2 (stripO k W.B (ys.take i ++ [a]))
        rw [stripO_snoc, eB]
        exact al2
    · rintro σ G ⟨F1, xs, v2, v3, v4, rfl, g, Wg, w, al, hp, fp⟩
      rw [List.length_map, List.take_length] at al
      refine ⟨_, rfl, q F1 G D xs _ g w al (strip_ok k1 hB yst fun a na v m => ?_)⟩
      rw [hW.bl a] at m
      cases el : lkD L a with
      | none => rw [el] at m; exact (List.mem_replicate.mp m).2
      | some s => exact absurd (hperm.mem_iff.mpr (lkD_mem.mpr (by rw [el]; exact fun z => nomatch z))) na
/-! ### by blocks -/
theorem sdB_dec (b : Bool) : decide (sdB b = 1) = b := by cases b <;> decide
def sp_by_blocks : Sp := fun vs H Q _ => ∃ (F : Hp) (m : V) (M : Mach) (R S k n : Nat), vs = [m, .int k, .int n] ∧ Same F H ∧ Is F m M ∧ MOk M R S ∧ 1 ≤ k ∧ k ≤ 4 ∧ n ≤ 1000 ∧
  ∀ (F' H' : Hp) (v l : Addr) (xs : List V) (z : List PI) (Y : ByR), byB M R S k n (W0 k) = Y → Gr mu0 F H F' H' → F' v = some (.tup [.str Y.w.x, .int Y.st, .int Y.row, .int Y.pl, .ref l]) → Ow H F' H' l (.lst xs) → IsAll F' xs z → IsSt z (fB k Y.B) → Q (.ref v) H'
theorem ok_by_blocks (t : Tx K mg) : FnOk P w K mg base CX0 5 t.a_by_blocks t.fd_by_blocks ["machine", "k", "many"] sp_by_blocks := by
  refine t.F_by_blocks.ok sc_by_blocks (fun vs H Q E h => ?_) (fun cdv A outer s H vs Q E hr h => ?_)
  · obtain ⟨F, m, M, R, S, k, n, rfl, _⟩ := h
    rfl
  · obtain ⟨F, m, M, R, S, k, n, rfl, sF, hm, hM, k1, k4, hn, q⟩ := h
    refine ⟨_, (pss_cons (ps_expr (pe_call (ok_must_machine t) (hr.mono (by decide)) (by rfl) t.m_must_machine t.F_must_machine.kp t.b_must_machine .nil pass0 (pa_cons (pv 0) pa_nil)))
      (pss_cons (ps_set (i := 3) sc_by_blocks.nd rfl (by first | exact Or.inl rfl | exact Or.inr rfl) (pe_make t.M_Walk (ok_Walk_init t) (hr.mono (by decide)) (by rfl) t.m_Walk t.b_Walk_init .nil pass0 (pa_cons (pv 1) pa_nil)))
      (pss_cons (ps_for PassesOwn.never rfl (pi_range1 (by rfl) t.n_range (pa_cons (pv 2) pa_nil)) (pg_name (i := 4) sc_by_blocks.nd rfl (by first | exact Or.inl rfl | exact Or.inr rfl)) (pss_cons (ps_set (i := 5) sc_by_blocks.nd rfl (by first | exact Or.inl rfl | exact Or.inr rfl) (pe_call (ok_through t) (hr.mono (by decide)) (by rfl) t.m_through t.F_through.kp t.b_through .nil pass0 (pa_cons (pv 0) (pa_cons (pe_meth0 (pv 3) t.cl_Walk t.M_Walk_block (ok_Walk_block t) (hr.mono (by decide)) t.b_Walk_block .nil pass0) (pa_cons (pe_fld (pv 3) rfl) (pa_cons (pe_fld (pv 3) rfl) pa_nil))))))
      (pss_cons (ps_if (pt_cmpR op_eq (pe_ix ix_tup (pv 5) pe_int (fun _ _ => rfl)) pe_str (nomark _)) (pss_one (ps_ret (pe_tup (pa_cons pe_str (pa_cons (pe_fld (pv 3) rfl) (pa_cons (pe_fld (pv 3) rfl) (pa_cons (pe_meth0 (pv 3) t.cl_Walk t.M_Walk_place (ok_Walk_place t) (hr.mono (by decide)) t.b_Walk_place .nil pass0) (pa_cons (pe_meth0 (pv 3) t.cl_Walk t.M_Walk_strip (ok_Walk_strip t) (hr.mono (by decide)) t.b_Walk_strip .nil pass0) pa_nil)))))))) pss_nil)
      (pss_cons (ps_if (pt_cmpR op_eq (pe_ix ix_tup (pv 5) pe_int (fun _ _ => rfl)) pe_str (nomark _)) (pss_cons (ps_asg (pv 5) (pg_tup rfl (pgs_cons (pg_name (i := 6) sc_by_blocks.nd rfl (by first | exact Or.inl rfl | exact Or.inr rfl)) (pgs_cons (pg_name (i := 7) sc_by_blocks.nd rfl (by first | exact Or.inl rfl | exact Or.inr rfl)) (pgs_cons (pg_name (i := 8) sc_by_blocks.nd rfl (by first | exact Or.inl rfl | exact Or.inr rfl)) (pgs_cons (pg_name (i := 9) sc_by_blocks.nd rfl (by first | exact Or.inl rfl | exact Or.inr rfl)) (pgs_cons (pg_name (i := 10) sc_by_blocks.nd rfl (by first | exact Or.inl rfl | exact Or.inr rfl)) pgs_nil)))))))
      (pss_cons (ps_dput (hu_of hr) (pe_fld (pv 3) rfl) (pe_fld (pv 3) rfl) (pv 7) rfl)
      (pss_one (ps_ret (pe_tup (pa_cons pe_str (pa_cons (pe_op op_add (pe_fld (pv 3) rfl) (pv 10)) (pa_cons (pv 8) (pa_cons (pe_op op_add (pe_op op_mul (pe_fld (pv 3) rfl) (pv 1)) (pv 9)) (pa_cons (pe_meth0 (pv 3) t.cl_Walk t.M_Walk_strip (ok_Walk_strip t) (hr.mono (by decide)) t.b_Walk_strip .nil pass0) pa_nil)))))))))) pss_nil)
      (pss_one (ps_expr (pe_meth (pv 3) t.cl_Walk t.M_Walk_out (ok_Walk_out t) (hr.mono (by decide)) t.b_Walk_out .nil pass0 (pa_cons (pv 5) pa_nil))))))))
      (pss_one (ps_ret (pe_tup (pa_cons pe_str (pa_cons (pe_fld (pv 3) rfl) (pa_cons (pe_fld (pv 3) rfl) (pa_cons (pe_meth0 (pv 3) t.cl_Walk t.M_Walk_place (ok_Walk_place t) (hr.mono (by decide)) t.b_Walk_place .nil pass0) (pa_cons (pe_meth0 (pv 3) t.cl_Walk t.M_Walk_strip (ok_Walk_strip t) (hr.mono (by decide)) t.b_Walk_strip .nil pass0) pa_nil))))))))))), ?_⟩
    refine ⟨_, rfl, F, m, M, R, S, rfl, sF, hm, hM, fun H1 g1 => ?_⟩
    have S1 : 1 ≤ S := by have := hM.s2; omega
    refine ⟨_, rfl, fun o do' no ndo neo => ?_⟩
    have g2 := g1.own (o := .own o) ndo
    have no2 : (upd H1 do' (.own o)) o = none := by rw [upd_ne neo.symm]; exact no
    have g3 := g2.own (o := .ins t.C_Walk do' []) no2
    have hno : H o = none := g1.th _ no
    refine ⟨F, o, do', k, rfl, upd_same, g1.fh.free no, g3.fh, fun d H4 nd g4 W4 => ⟨rfl, ?_⟩⟩
    have hnd : H d = none := g3.th _ nd
    have g5 := g3.thn g4 fun c z => .inr (by rw [show c = o from z]; exact hno)
    have fo : F o = none := g1.fh.free no
    have fd : F d = none := g3.fh.free nd
    clear g1 g2 g3 g4 no2
    have kw : ∀ {F1 G F2 G2 : Hp} {L : DI (Tup Int)} {W : Wk}, WkAt t.C_Walk F1 G o d k L W → Gr mu0 F1 G F2 G2 → WkAt t.C_Walk F2 G2 o d k L W := fun W1 g => W1.gr g (fun z => z) (fun z => z)
    have no' : ∀ {F1 G F2 G2 : Hp} {L : DI (Tup Int)} {W : Wk}, WkAt t.C_Walk F1 G o d k L W → Gr mu0 F1 G F2 G2 → F1 o = none → F1 d = none → F2 o = none ∧ F2 d = none := fun W1 g h1 h2 => by
      obtain ⟨dx, e⟩ := W1.ob
      exact ⟨g.pf0 h1 e, g.pf0 h2 W1.dd⟩
    -- what is told at the end of it
    have fin : ∀ {F1 G : Hp} {L : DI (Tup Int)} {W : Wk} (Y : ByR), Gr mu0 F H F1 G → byB M R S k n (W0 k) = Y → Y.B = W.B → ∀ {F4 G4 : Hp} {l : Addr} {xs : List V} {z : List PI}, Gr mu0 F1 G F4 G4 → Ow G F4 G4 l (.lst xs) → IsAll F4 xs z → IsSt z (fB k W.B) →
        ∀ u, G4 u = none → Q (.ref u) (upd G4 u (.tup [.str Y.w.x, .int Y.st, .int Y.row, .int Y.pl, .ref l])) := by
      intro F1 G L W Y g e eB F4 G4 l xs z g4 wl al st u nu
      have g6 := g.trans g4
      have wl' : Ow H F4 G4 l (.lst xs) := ⟨g.th _ wl.n, wl.f, wl.h⟩
      have s6 : Same F4 (upd F4 u (.tup [.str Y.w.x, .int Y.st, .int Y.row, .int Y.pl, .ref l])) := sm_new (Same.refl F4) (g6.fh.free nu)
      exact q _ _ u l xs z Y e (g6.new nu) upd_same (wl'.new nu) (al.up s6) (by rw [eB]; exact st)
    refine ⟨_, rfl, (n : Int), rfl, by omega, by omega, for_range (lo := 0) (n := ((n : Int)).toNat) (fun i σ G => ∃ (F1 : Hp) (L : DI (Tup Int)) (W : Wk) (v4 v5 v6 v7 v8 v9 v10 : Option V), σ = [some m, some (.int k), some (.int n), some (.ref o), v4, v5, v6, v7, v8, v9, v10] ∧
      Gr mu0 F H F1 G ∧ Is F1 m M ∧ WkAt t.C_Walk F1 G o d k L W ∧ OkW R S k W ∧ L.length ≤ i ∧ i ≤ n ∧ byB M R S k n (W0 k) = byB M R S k (n - i) W ∧ F1 o = none ∧ F1 d = none)
      ⟨F, [], W0 k, none, none, none, none, none, none, none, rfl, g5, hm, W4, W0_ok hM.r1 S1, Nat.le_refl 0, by omega, rfl, fo, fd⟩ ?_ ?_⟩
    · rintro i σ G hi ⟨F1, L, W, v4, v5, v6, v7, v8, v9, v10, rfl, g, hmF, Wg, ok, lL, hin, es, fo1, fd1⟩
      have i1 : i < n := by omega
      rw [show n - i = (n - (i + 1)) + 1 by omega] at es
      obtain ⟨dx, ho⟩ := Wg.ob
      refine ⟨_, rfl, _, rfl, o, dx, _, rfl, ho, Walk_no (by decide +kernel) (by decide +kernel) (by decide +kernel) (by decide +kernel) (by decide +kernel) (by decide +kernel), F1, o, d, k, L, W, rfl, g.fh, Wg, k1, by omega, fun F2 G2 b g2 hb => ?_⟩
      have W2 := kw Wg g2
      obtain ⟨dx, ho2⟩ := W2.ob
      have lB : (W.B W.at_).length = k := ok.len _
      refine ⟨_, rfl, o, t.C_Walk, dx, _, _, rfl, ho2, t.cl_Walk, t.nA_Walk_row, Walk_get_row, _, rfl, o, t.C_Walk, dx, _, _, rfl, ho2, t.cl_Walk, t.nA_Walk_side, Walk_get_side, F2, m, b, M, R, S, W.B W.at_, W.row, sdB W.far, rfl, g2.fh, hmF.up g2.ff, hM, hb, ok.s _, by omega, by omega, ok.r0, ok.r1, fun F3 G3 v g3 iv => ?_⟩
      rw [sdB_dec] at iv
      have gg := (g.trans g2).trans g3
      have W3 := kw W2 g3
      obtain ⟨fo2, fd2⟩ := no' Wg g2 fo1 fd1
      obtain ⟨fo3, fd3⟩ := no' W2 g3 fo2 fd2
      have hm3 := (hmF.up g2.ff).up g3.ff
      obtain ⟨dx, ho3⟩ := W3.ob
      cases et : thr M R S (W.B W.at_) W.row W.far with
      | stay =>
        rw [et] at iv
        obtain ⟨p, rfl, hp⟩ := iv
        refine ⟨_, rfl, p, _, _, _, rfl, rfl, SqT.of (gg.fh _ _ hp), atI_nat (j := 0) rfl, rfl, _, rfl, ifT (decide_eq_true rfl) ?_⟩
        rw [byB_stay et] at es
        refine ⟨_, rfl, o, t.C_Walk, dx, _, _, rfl, ho3, t.cl_Walk, t.nA_Walk_steps, Walk_get_steps, _, rfl, o, t.C_Walk, dx, _, _, rfl, ho3, t.cl_Walk, t.nA_Walk_row, Walk_get_row, _, rfl, o, dx, _, rfl, ho3, Walk_no (by decide +kernel) (by decide +kernel) (by decide +kernel) (by decide +kernel) (by decide +kernel) (by decide +kernel), F3, o, d, k, L, W, rfl, W3, by omega, ?_⟩
        refine ⟨_, rfl, o, dx, _, rfl, ho3, Walk_no (by decide +kernel) (by decide +kernel) (by decide +kernel) (by decide +kernel) (by decide +kernel) (by decide +kernel), F3, o, d, k, L, W, rfl, gg.fh, W3, k1, by omega, by omega, ok.len, fun F4 G4 l xs z g4 wl al st => ⟨five_le, fun u nu => ?_⟩⟩
        exact fin (L := L) (W := W) _ gg es rfl g4 wl al st u nu
      | fin wd s r x mm =>
        rw [et] at iv
        obtain ⟨p, b', rfl, hp, hb'⟩ := iv
        obtain ⟨hw, ls, ss, hr', hmm, hx1, hx2⟩ := thr_ok hM (ok.s _) (by rw [lB]; exact k1) ok.r0 ok.r1 et
        have hp3 := SqT.of (K := K) (gg.fh _ _ hp)
        refine ⟨_, rfl, p, _, _, _, rfl, rfl, hp3, atI_nat (j := 0) rfl, rfl, _, rfl, ifF (by rcases hw with rfl | rfl <;> decide +kernel) ?_⟩
        rcases hw with rfl | rfl
        · rw [byB_end et] at es
          refine ⟨_, rfl, p, _, _, _, rfl, rfl, hp3, atI_nat (j := 0) rfl, rfl, _, rfl, ifT (decide_eq_true rfl) ?_⟩
          refine ⟨_, rfl, p, _, rfl, hp3, rfl, _, _, rfl, _, _, rfl, _, _, rfl, _, _, rfl, _, _, rfl, rfl, ?_⟩
          refine ⟨_, rfl, _, rfl, o, t.C_Walk, dx, _, _, rfl, ho3, t.cl_Walk, t.nA_Walk_blocks, Walk_get_blocks, _, rfl, o, t.C_Walk, dx, _, _, rfl, ho3, t.cl_Walk, t.nA_Walk_at, Walk_get_at, d, _, rfl, DPut.k (k := Sum.inl W.at_) W3.dd (by rw [diK_len]; exact lt_size (by omega)), ?_⟩
          rw [di_put L W.at_ (.ref b') (⟨s⟩ : Tup Int)]
          have od := W3.ne
          have g6 := gg.set (o := .dK (diK (ptD L W.at_ (.ref b') (⟨s⟩ : Tup Int)))) fd3 (.inl hnd)
          have ho6 := (upd_ne (H := G3) (o := .dK (diK (ptD L W.at_ (.ref b') (⟨s⟩ : Tup Int)))) od).trans ho3
          have W6 : WkAt t.C_Walk F3 (upd G3 d (.dK (diK (ptD L W.at_ (.ref b') (⟨s⟩ : Tup Int))))) o d k (ptD L W.at_ (.ref b') (⟨s⟩ : Tup Int)) ⟨updB W.B W.at_ s, W.at_, W.row, W.far, W.st⟩ :=
            ⟨⟨dx, ho6⟩, upd_same, W3.is.put ⟨b', _, rfl, hb', all_ints s⟩, W3.nd.put, fun a => by
              show updB W.B W.at_ s a = _
              rw [lkD_put]
              unfold updB
              by_cases e : a = W.at_
              · rw [if_pos e, if_pos e]; rfl
              · rw [if_neg e, if_neg e]; exact W3.bl a⟩
          generalize upd G3 d (.dK (diK (ptD L W.at_ (.ref b') (⟨s⟩ : Tup Int)))) = G6 at g6 ho6 W6 ⊢
          have lp := ptD_len L W.at_ (.ref b') (⟨s⟩ : Tup Int)
          refine ⟨_, rfl, o, t.C_Walk, dx, _, _, rfl, ho6, t.cl_Walk, t.nA_Walk_steps, Walk_get_steps, _, rfl, _, _, rfl, rfl, _, rfl, _, rfl, o, t.C_Walk, dx, _, _, rfl, ho6, t.cl_Walk, t.nA_Walk_at, Walk_get_at, _, rfl, _, _, rfl, rfl, .inr ⟨by omega, by omega⟩, _, rfl, _, _, rfl, rfl, ?_⟩
          refine ⟨_, rfl, o, dx, _, rfl, ho6, Walk_no (by decide +kernel) (by decide +kernel) (by decide +kernel) (by decide +kernel) (by decide +kernel) (by decide +kernel), F3, o, d, k, _, ⟨updB W.B W.at_ s, W.at_, W.row, W.far, W.st⟩, rfl, g6.fh, W6, k1, by omega, by omega, fun a => ?_, fun F4 G4 l xs z g4 wl al st => ⟨five_le, fun u nu => ?_⟩⟩
          · show (updB W.B W.at_ s a).length = k
            unfold updB
            split
            · rw [ls]; exact lB
            · exact ok.len a
          · exact fin (L := L) (W := ⟨updB W.B W.at_ s, W.at_, W.row, W.far, W.st⟩) _ g6 es rfl g4 wl al st u nu
        · rw [byB_out et] at es
          refine ⟨_, rfl, p, _, _, _, rfl, rfl, hp3, atI_nat (j := 0) rfl, rfl, _, rfl, ifF (by decide +kernel) ?_⟩
          refine ⟨_, rfl, o, dx, _, rfl, ho3, Walk_no (by decide +kernel) (by decide +kernel) (by decide +kernel) (by decide +kernel) (by decide +kernel) (by decide +kernel), _, rfl, F3, o, d, p, b', k, L, W, tOut, s, r, x, mm, rfl, gg.fh, W3, fo3, fd3, by omega, (hx2 rfl).1, hp, hb', fun G5 g5' W5 => ?_⟩
          have lp := ptD_len L W.at_ (.ref b') (⟨s⟩ : Tup Int)
          refine ⟨F3, _, _, _, _, _, _, _, _, _, rfl, gg.thn g5' fun c z => .inr (by rcases z with rfl | rfl <;> assumption), hm3, W5, ok.out hM k1 et, by omega, by omega, es, fo3, fd3⟩
    · rintro σ G ⟨F1, L, W, v4, v5, v6, v7, v8, v9, v10, rfl, g, hmF, Wg, ok, lL, hin, es, fo1, fd1⟩
      rw [show n - ((n : Int)).toNat = 0 by omega] at es
      have lL : L.length ≤ n := by rw [Int.toNat_natCast] at lL; exact lL
      obtain ⟨dx, ho3⟩ := Wg.ob
      refine ⟨_, rfl, o, t.C_Walk, dx, _, _, rfl, ho3, t.cl_Walk, t.nA_Walk_steps, Walk_get_steps, _, rfl, o, t.C_Walk, dx, _, _, rfl, ho3, t.cl_Walk, t.nA_Walk_row, Walk_get_row, _, rfl, o, dx, _, rfl, ho3, Walk_no (by decide +kernel) (by decide +kernel) (by decide +kernel) (by decide +kernel) (by decide +kernel) (by decide +kernel), F1, o, d, k, L, W, rfl, Wg, by omega, ?_⟩
      refine ⟨_, rfl, o, dx, _, rfl, ho3, Walk_no (by decide +kernel) (by decide +kernel) (by decide +kernel) (by decide +kernel) (by decide +kernel) (by decide +kernel), F1, o, d, k, L, W, rfl, g.fh, Wg, k1, by omega, by omega, ok.len, fun F4 G4 l xs z g4 wl al st => ⟨five_le, fun u nu => ?_⟩⟩
      exact fin (L := L) (W := W) ⟨tOnB, W.st, W.row, plB k W, W.B⟩ g es rfl g4 wl al st u nu
/-! ### strips by runs -/
def laid (l : List PI) (s n : Int) : List PI := if n = 0 ∨ (l = [] ∧ s = 0) then l else match l with
  | [] => [⟨s, n⟩]
  | h :: r => if h.a = s then ⟨s, h.b + n⟩ :: r else ⟨s, n⟩ :: h :: r
def takn (l : List PI) : Int × List PI := match l with
  | [] => (0, [])
  | h :: r => if h.b = 1 then (h.a, r) else (h.a, ⟨h.a, h.b - 1⟩ :: r)
theorem laid_len {l : List PI} {s n : Int} : (laid l s n).length ≤ l.length + 1 := by
  unfold laid
  split
  · omega
  · split
    · simp
    · split <;> simp
theorem takn_len {l : List PI} : (takn l).2.length ≤ l.length := by
  unfold takn
  split
  · simp
  · split <;> simp
theorem laid_same {l : List PI} {s n : Int} (h : n = 0 ∨ (l = [] ∧ s = 0)) : laid l s n = l := by
  unfold laid
  rw [if_pos h]
theorem laid_nil {s n : Int} (h : ¬ n = 0) (k : ¬ s = 0) : laid [] s n = [⟨s, n⟩] := by
  unfold laid
  rw [if_neg (by rintro (z | z); exact h z; exact k z.2)]
theorem laid_cons {s n : Int} {x : PI} {r : List PI} (h : ¬ n = 0) : laid (x :: r) s n = if x.a = s then ⟨s, x.b + n⟩ :: r else ⟨s, n⟩ :: x :: r := by
  unfold laid
  rw [if_neg (by
    rintro (z | z)
    · exact h z
    · exact absurd z.1 (by simp))]
theorem laid_ok {S : Nat} {l : List PI} {s n : Int} (h : OkS S l) (h0 : 0 ≤ s) (h1 : s < S) (n1 : 1 ≤ n) : OkS S (laid l s n) := by
  have n0 : ¬ n = 0 := by omega
  cases l with
  | nil =>
    by_cases c : s = 0
    · rw [laid_same (.inr ⟨rfl, c⟩)]; exact h
    · rw [laid_nil n0 c]
      intro q z
      rw [List.mem_singleton.mp z]
      exact ⟨⟨h0, h1⟩, n1⟩
  | cons a r =>
    rw [laid_cons n0]
    have ha := h a (List.mem_cons_self ..)
    split
    · intro q z
      rcases List.mem_cons.mp z with rfl | z
      · exact ⟨⟨h0, h1⟩, by show 1 ≤ a.b + n; omega⟩
      · exact h q (List.mem_cons_of_mem _ z)
    · intro q z
      rcases List.mem_cons.mp z with rfl | z
      · exact ⟨⟨h0, h1⟩, n1⟩
      · exact h q z
theorem takn_ok {S : Nat} {l : List PI} (h : OkS S l) (S1 : 1 ≤ S) : OkS S (takn l).2 ∧ 0 ≤ (takn l).1 ∧ (takn l).1 < S := by
  cases l with
  | nil => exact ⟨OkS.nil, by show (0 : Int) ≤ 0; omega, by show (0 : Int) < S; omega⟩
  | cons a r =>
    unfold takn
    dsimp only
    have ha := h a (List.mem_cons_self ..)
    have hr : OkS S r := fun q z => h q (List.mem_cons_of_mem _ z)
    split
    · exact ⟨hr, ha.1.1, ha.1.2⟩
    · rename_i c
      refine ⟨fun q z => ?_, ha.1.1, ha.1.2⟩
      rcases List.mem_cons.mp z with rfl | z
      · exact ⟨ha.1, by show 1 ≤ a.b - 1; omega⟩
      · exact hr q z
theorem is_nil {F : Hp} {p : Addr} {α : Type} [Dat α] (h : F p = some (.lst [])) : Is F (.ref p) ([] : List α) := ⟨p, [], rfl, h, All2.nil⟩
theorem int_eq {a b : Int} : decide (V.int a = V.int b) = decide (a = b) := by
  by_cases h : a = b
  · subst h; simp
  · rw [decide_eq_false h, decide_eq_false fun e => h (V.int.inj e)]
/-! ### the program's strips by runs: the nearest ones last -/
theorem All2.snoc {α β : Type} {r : α → β → Prop} {xs : List α} {ys : List β} {y : β} (h : All2 r xs (ys ++ [y])) : ∃ xs' x, xs = xs' ++ [x] ∧ All2 r xs' ys ∧ r x y := by
  have l := h.1
  rw [List.length_append] at l
  have l : xs.length = ys.length + 1 := l
  have h1 := h.take ys.length
  have h2 := h.drop ys.length
  rw [List.take_left] at h1
  rw [List.drop_left] at h2
  cases e : xs.drop ys.length with
  | nil => rw [e] at h2; have := h2.1; simp at this
  | cons z zs =>
    rw [e] at h2
    have e3 : zs = [] := by
      have := h2.1
      simp at this
      exact this
    subst e3
    refine ⟨xs.take ys.length, z, ?_, h1, h2.2 0 z y rfl rfl⟩
    rw [← e, List.take_append_drop]
structure LsAt (F H : Hp) (a : Addr) (l : List PI) : Prop where
  h : ∃ xs, H a = some (.lst xs) ∧ IsAll F xs l.reverse
  f : F a = none
theorem LsAt.gr {mu : Addr → Prop} {F H F' H' : Hp} {a : Addr} {l : List PI} (x : LsAt F H a l) (g : Gr mu F H F' H') (m : ¬ mu a) : LsAt F' H' a l := by
  obtain ⟨⟨xs, h, i⟩, f⟩ := x
  exact ⟨⟨xs, g.fr _ _ h m, IsAll.up i g.ff⟩, g.pf0 f h⟩
theorem LsAt.is {F H : Hp} {a : Addr} {l : List PI} (x : LsAt F H a l) (s : Same F H) : Is H (.ref a) l.reverse := by
  obtain ⟨⟨xs, h, i⟩, f⟩ := x
  exact ⟨a, xs, rfl, h, IsAll.up i s⟩
theorem rev_nil_iff {l : List PI} : decide (l.reverse = []) = decide (l = []) := by
  cases l with
  | nil => rfl
  | cons x r => rw [decide_eq_false (by simp), decide_eq_false (by simp)]
def sp_put_run : Sp := fun vs H Q _ => ∃ (F : Hp) (a : Addr) (l : List PI) (s n : Int), vs = [.ref a, .int s, .int n] ∧ Same F H ∧ LsAt F H a l ∧ l.length ≤ 2000 ∧
  ∀ (F' H' : Hp), Gr (muP a) F H F' H' → LsAt F' H' a (laid l s n) → Q .non H'
theorem ok_put_run (t : Tx K mg) : FnOk P w K mg base CX0 1 t.a_put_run t.fd_put_run ["runs", "sign", "many"] sp_put_run := by
  refine t.F_put_run.ok sc_put_run (fun vs H Q E h => ?_) (fun cdv A outer s H vs Q E hr h => ?_)
  · obtain ⟨F, a, l, sg, n, rfl, _⟩ := h
    rfl
  · obtain ⟨F, a, l, sg, n, rfl, sF, hL, hl, q⟩ := h
    refine ⟨_, (pss_cons (ps_if (PW.pt (pw_or (pt_cmpR op_eq (pv 2) pe_int (nomark _)) (pw_or1 (PW.pt (pw_and (pt_cmpR (op_eqD hr.units) (pv 0) (pe_lst pa_nil) (nomark _)) (pw_and1 (pt_cmpR op_eq (pv 1) pe_int (nomark _)))))))) (pss_one ps_retN) pss_nil)
      (pss_cons (ps_if (PW.pt (pw_and (pt_cmpR (op_neD hr.units) (pv 0) (pe_lst pa_nil) (nomark _)) (pw_and1 (pt_cmpR op_eq (pe_ix ix_tup (pe_ix ix_list (pv 0) (pe_un un_neg pe_int) (fun _ _ => rfl)) pe_int (fun _ _ => rfl)) (pv 1) (nomark _))))) (pss_one (ps_aug (i := 2) sc_put_run.nd rfl (by first | exact Or.inl rfl | exact Or.inr rfl) (pe_ix ix_tup (pe_bm0 PySem.F.plainAttrs_list PySem.F.slot_list_pop PySem.F.type_list_pop mt_pop (pv 0)) pe_int (fun _ _ => rfl)) ip_add)) pss_nil)
      (pss_one (ps_expr (pe_bm PySem.F.plainAttrs_list PySem.F.slot_list_append PySem.F.type_list_append mt_append (pv 0) (pa_cons (pe_tup (pa_cons (pv 1) (pa_cons (pv 2) pa_nil))) pa_nil)))))), ?_⟩
    have g0 : Gr (muP a) F H F H := Gr.refl sF
    refine ⟨_, rfl, rfl, _, rfl, ?_⟩
    rw [int_eq]
    refine ite2 (fun c => ifT rfl ?_) (fun c => ?_)
    · exact q F H g0 (by rw [laid_same (.inl (of_decide_eq_true c))]; exact hL)
    have n0 : ¬ n = 0 := fun z => c (decide_eq_true z)
    refine ⟨_, rfl, nil_le, fun e1 ne1 => ?_⟩
    have g1 := g0.own (o := .lst []) ne1
    have ae1 : a ≠ e1 := by obtain ⟨⟨xs, h, i⟩, f⟩ := hL; exact ne_of_none h ne1
    have hL1 : LsAt F (upd H e1 (.lst [])) a l := hL.gr ((Gr.refl (mu := mu0) sF).own ne1) fun z => z
    refine eq_dat (a := l.reverse) (b := ([] : List PI)) (hL1.is g1.fh) (is_nil upd_same) ⟨_, rfl, ?_⟩
    generalize upd H e1 (.lst []) = H1 at g1 hL1 ⊢
    have fin : ∀ {F2 H2 : Hp} {xs : List V} {t : Addr} {l2 : List PI} {x : PI}, Gr (muP a) F H F2 H2 → H2 t = none → H2 a = some (.lst xs) → IsAll F2 xs l2.reverse → F2 a = none →
        ∀ (m : Int), x = ⟨sg, m⟩ → ∃ F3, Gr (muP a) F H F3 (upd (upd H2 t (.tup [.int sg, .int m])) a (.lst (xs ++ [.ref t]))) ∧ LsAt F3 (upd (upd H2 t (.tup [.int sg, .int m])) a (.lst (xs ++ [.ref t]))) a (x :: l2) := by
      intro F2 H2 xs t l2 x g nt h i f m e
      have g2 := g.new (o := .tup [.int sg, .int m]) nt
      have at' : a ≠ t := ne_of_none h nt
      have fa : (upd F2 t (.tup [.int sg, .int m])) a = none := by rw [upd_ne at']; exact f
      have s2 : Same F2 (upd F2 t (.tup [.int sg, .int m])) := sm_new (Same.refl F2) (g.fh.free nt)
      refine ⟨_, g2.set fa (.inr rfl), ⟨⟨_, upd_same, ?_⟩, fa⟩⟩
      rw [List.reverse_cons, e]
      exact (IsAll.up i s2).app (All2.one ⟨t, _, _, rfl, upd_same, rfl, rfl⟩)
    cases l with
    | nil =>
      refine ifT (decide_eq_true rfl) ⟨_, rfl, rfl, _, rfl, ?_⟩
      rw [int_eq]
      refine ite2 (fun c => ?_) (fun c => ?_)
      · exact q F _ g1 (by rw [laid_same (.inr ⟨rfl, of_decide_eq_true c⟩)]; exact hL1)
      · have s0 : ¬ sg = 0 := fun z => c (decide_eq_true z)
        refine ⟨_, rfl, nil_le, fun e2 ne2 => ?_⟩
        have g2 := g1.own (o := .lst []) ne2
        have hL2 : LsAt F (upd H1 e2 (.lst [])) a [] := hL1.gr ((Gr.refl (mu := mu0) g1.fh).own ne2) fun z => z
        refine ne_dat (a := ([] : List PI)) (b := ([] : List PI)) (hL2.is g2.fh) (is_nil upd_same) ⟨_, rfl, ifF (by simp) (ifF rfl ?_)⟩
        generalize upd H1 e2 (.lst []) = H2 at g2 hL2 ⊢
        obtain ⟨⟨xs, h, i⟩, f⟩ := hL2
        refine ⟨_, rfl, .inl ⟨rfl, _, SqL.of h⟩, _, rfl, _, rfl, two_le, fun t nt => ⟨a, _, _, rfl, rfl, ln nt h, by rw [i.1]; exact lt_size (by simp), ?_⟩⟩
        obtain ⟨F3, g3, k3⟩ := fin (t := t) (l2 := []) g2 nt h i f n rfl
        exact q F3 _ g3 (by rw [laid_nil n0 s0]; exact k3)
    | cons x r =>
      refine ifF (by rw [rev_nil_iff]; rfl) (ifF rfl ?_)
      refine ⟨_, rfl, nil_le, fun e2 ne2 => ?_⟩
      have g2 := g1.own (o := .lst []) ne2
      have hL2 : LsAt F (upd H1 e2 (.lst [])) a (x :: r) := hL1.gr ((Gr.refl (mu := mu0) g1.fh).own ne2) fun z => z
      refine ne_dat (a := (x :: r).reverse) (b := ([] : List PI)) (hL2.is g2.fh) (is_nil upd_same) ⟨_, rfl, ifT (by rw [rev_nil_iff]; rfl) ?_⟩
      generalize upd H1 e2 (.lst []) = H2 at g2 hL2 ⊢
      obtain ⟨⟨xs, h, i⟩, f⟩ := hL2
      have i' := i
      rw [List.reverse_cons] at i'
      obtain ⟨ys, y, rfl, iy, p, y1, y2, rfl, hp, e1', e2'⟩ := i'.snoc
      have e1' : y1 = .int x.a := e1'
      have e2' : y2 = .int x.b := e2'
      subst e1'
      subst e2'
      refine ⟨_, rfl, _, rfl, a, _, _, _, rfl, rfl, SqL.of h, atI_last _ _, p, _, _, _, rfl, rfl, SqT.of (g2.fh _ _ hp), atI_nat (j := 0) rfl, _, rfl, rfl, _, rfl, ?_⟩
      rw [int_eq]
      refine ite2 (fun c => ?_) (fun c => ?_)
      · have c := of_decide_eq_true c
        refine ⟨_, rfl, _, rfl, .inl ⟨rfl, _, SqL.of h⟩, a, _, .ref p, rfl, rfl, h, (by simp), ?_⟩
        rw [List.dropLast_concat]
        have g3 := g2.set (o := .lst ys) f (.inr rfl)
        refine ⟨p, _, _, _, rfl, rfl, SqT.of (g3.fh _ _ hp), atI_nat (j := 1) rfl, _, _, rfl, rfl, ?_⟩
        have h3 : (upd H2 a (.lst ys)) a = some (.lst ys) := upd_same
        refine ⟨_, rfl, .inl ⟨rfl, _, SqL.of h3⟩, _, rfl, _, rfl, two_le, fun t nt => ⟨a, _, _, rfl, rfl, ln nt h3, by rw [iy.1, List.length_reverse]; exact lt_size (by simp at hl; omega), ?_⟩⟩
        obtain ⟨F3, g4, k3⟩ := fin (t := t) (l2 := r) g3 nt h3 iy f (n + x.b) rfl
        refine q F3 _ g4 ?_
        rw [laid_cons n0, if_pos c, Int.add_comm x.b n]
        exact k3
      · have c : ¬ x.a = sg := fun z => c (decide_eq_true z)
        refine ⟨_, rfl, .inl ⟨rfl, _, SqL.of h⟩, _, rfl, _, rfl, two_le, fun t nt => ⟨a, _, _, rfl, rfl, ln nt h, by rw [i.1, List.length_reverse]; exact lt_size (by simp at hl ⊢; omega), ?_⟩⟩
        obtain ⟨F3, g4, k3⟩ := fin (t := t) (l2 := x :: r) g2 nt h i f n rfl
        refine q F3 _ g4 ?_
        rw [laid_cons n0, if_neg c]
        exact k3
def sp_taken : Sp := fun vs H Q _ => ∃ (F : Hp) (a : Addr) (l : List PI), vs = [.ref a] ∧ Same F H ∧ LsAt F H a l ∧ l.length ≤ 2000 ∧ (∀ q ∈ l, 1 ≤ q.b) ∧
  ∀ (F' H' : Hp), Gr (muP a) F H F' H' → LsAt F' H' a (takn l).2 → Q (.int (takn l).1) H'
theorem ok_taken (t : Tx K mg) : FnOk P w K mg base CX0 1 t.a_taken t.fd_taken ["runs"] sp_taken := by
  refine t.F_taken.ok sc_taken (fun vs H Q E h => ?_) (fun cdv A outer s H vs Q E hr h => ?_)
  · obtain ⟨F, a, l, rfl, _⟩ := h
    rfl
  · obtain ⟨F, a, l, rfl, sF, hL, hl, hp1, q⟩ := h
    refine ⟨_, (pss_cons (ps_if (pt_cmpR (op_eqD hr.units) (pv 0) (pe_lst pa_nil) (nomark _)) (pss_one (ps_ret pe_int)) pss_nil)
      (pss_cons (ps_asg (pe_bm0 PySem.F.plainAttrs_list PySem.F.slot_list_pop PySem.F.type_list_pop mt_pop (pv 0)) (pg_tup rfl (pgs_cons (pg_name (i := 1) sc_taken.nd rfl (by first | exact Or.inl rfl | exact Or.inr rfl)) (pgs_cons (pg_name (i := 2) sc_taken.nd rfl (by first | exact Or.inl rfl | exact Or.inr rfl)) pgs_nil))))
      (pss_cons (ps_if (pt_cmpR op_gt (pv 2) pe_int (nomark _)) (pss_one (ps_expr (pe_bm PySem.F.plainAttrs_list PySem.F.slot_list_append PySem.F.type_list_append mt_append (pv 0) (pa_cons (pe_tup (pa_cons (pv 1) (pa_cons (pe_op op_sub (pv 2) pe_int) pa_nil))) pa_nil)))) pss_nil)
      (pss_one (ps_ret (pv 1)))))), ?_⟩
    have g0 : Gr (muP a) F H F H := Gr.refl sF
    refine ⟨_, rfl, nil_le, fun e1 ne1 => ?_⟩
    have g1 := g0.own (o := .lst []) ne1
    have hL1 : LsAt F (upd H e1 (.lst [])) a l := hL.gr ((Gr.refl (mu := mu0) sF).own ne1) fun z => z
    refine eq_dat (a := l.reverse) (b := ([] : List PI)) (hL1.is g1.fh) (is_nil upd_same) ⟨_, rfl, ?_⟩
    generalize upd H e1 (.lst []) = H1 at g1 hL1 ⊢
    cases l with
    | nil => exact ifT (decide_eq_true rfl) (q F H1 g1 hL1)
    | cons x r =>
      refine ifF (by rw [rev_nil_iff]; rfl) ?_
      obtain ⟨⟨xs, h, i⟩, f⟩ := hL1
      rw [List.reverse_cons] at i
      obtain ⟨ys, y, rfl, iy, p, y1, y2, rfl, hp, e1', e2'⟩ := i.snoc
      have e1' : y1 = .int x.a := e1'
      have e2' : y2 = .int x.b := e2'
      subst e1'
      subst e2'
      have xb := hp1 x (List.mem_cons_self ..)
      refine ⟨_, rfl, .inl ⟨rfl, _, SqL.of h⟩, a, _, .ref p, rfl, rfl, h, (by simp), ?_⟩
      rw [List.dropLast_concat]
      have g3 := g1.set (o := .lst ys) f (.inr rfl)
      have h3 : (upd H1 a (.lst ys)) a = some (.lst ys) := upd_same
      refine ⟨p, _, rfl, SqT.of (g3.fh _ _ hp), rfl, _, _, rfl, _, _, rfl, rfl, _, rfl, _, _, rfl, rfl, _, rfl, ?_⟩
      refine ite2 (fun c => ?_) (fun c => ?_)
      · have c := of_decide_eq_true c
        have et : takn (x :: r) = (x.a, ⟨x.a, x.b - 1⟩ :: r) := by
          unfold takn
          exact if_neg (by omega)
        refine ⟨_, rfl, .inl ⟨rfl, _, SqL.of h3⟩, _, rfl, _, rfl, _, _, rfl, rfl, two_le, fun t nt => ⟨a, _, _, rfl, rfl, ln nt h3, by rw [iy.1, List.length_reverse]; exact lt_size (by simp at hl; omega), ?_⟩⟩
        have g4 := g3.new (o := .tup [.int x.a, .int (x.b - 1)]) nt
        have at' : a ≠ t := ne_of_none h3 nt
        have fa : (upd F t (.tup [.int x.a, .int (x.b - 1)])) a = none := by rw [upd_ne at']; exact f
        have s2 : Same F (upd F t (.tup [.int x.a, .int (x.b - 1)])) := sm_new (Same.refl F) (g3.fh.free nt)
        have z := q _ _ (g4.set (o := .lst (ys ++ [.ref t])) fa (.inr rfl)) (by
          rw [et]
          refine ⟨⟨_, upd_same, ?_⟩, fa⟩
          rw [List.reverse_cons]
          exact (IsAll.up iy s2).app (All2.one ⟨t, _, _, rfl, upd_same, rfl, rfl⟩))
        rw [et] at z
        exact ⟨_, rfl, z⟩
      · have c : ¬ 1 < x.b := fun z => c (decide_eq_true z)
        have et : takn (x :: r) = (x.a, r) := by
          unfold takn
          exact if_pos (by omega)
        have z := q F _ g3 (by rw [et]; exact ⟨⟨ys, h3, iy⟩, f⟩)
        rw [et] at z
        exact ⟨_, rfl, z⟩
/-! ### four -/
structure T4 (α β γ δ : Type) where
  a : α
  b : β
  c : γ
  d : δ
  deriving DecidableEq
instance [Dat α] [Dat β] [Dat γ] [Dat δ] : Dat (T4 α β γ δ) where
  rep := fun H v d => ∃ p x y z w, v = .ref p ∧ H p = some (.tup [x, y, z, w]) ∧ Is H x d.a ∧ Is H y d.b ∧ Is H z d.c ∧ Is H w d.d
  mono := fun s h => by
    obtain ⟨p, x, y, z, w, e, h, i, j, k, l⟩ := h
    exact ⟨p, x, y, z, w, e, s _ _ h, Is.up i s, Is.up j s, Is.up k s, Is.up l s⟩
  py := fun d => .tuple [Dat.py d.a, Dat.py d.b, Dat.py d.c, Dat.py d.d]
  dp := fun h => by
    obtain ⟨p, x, y, z, w, rfl, h, i, j, k, l⟩ := h
    exact .tup (SqT.of h) (.cons (Dat.dp i) (.cons (Dat.dp j) (.cons (Dat.dp k) (.cons (Dat.dp l) .nil))))
  can := fun d => by
    show (PyData.canLay0 (Dat.py d.a) && (PyData.canLay0 (Dat.py d.b) && (PyData.canLay0 (Dat.py d.c) && (PyData.canLay0 (Dat.py d.d) && true)))) = true
    rw [Dat.can, Dat.can, Dat.can, Dat.can]; rfl
  dep := max (Dat.dep α) (max (Dat.dep β) (max (Dat.dep γ) (Dat.dep δ))) + 1
  depth := fun d => by
    have h1 := Dat.depth d.a
    have h2 := Dat.depth d.b
    have h3 := Dat.depth d.c
    have h4 := Dat.depth d.d
    show max (PyData.depth (Dat.py d.a)) (max (PyData.depth (Dat.py d.b)) (max (PyData.depth (Dat.py d.c)) (max (PyData.depth (Dat.py d.d)) 0))) + 1 ≤ _
    omega
  eqv := fun a b => by
    obtain ⟨a, a', a'', a3⟩ := a; obtain ⟨b, b', b'', b3⟩ := b
    simp [PyData.eqv, PyData.eqvAll, Dat.eqv]
/-! ### strides, gone through -/
structure Sk where
  l : List PI
  r : List PI
  s : Int
  row : Int
  st : Int
def Sk.ah (k : Sk) (b : Bool) : List PI := if b then k.r else k.l
def Sk.bh (k : Sk) (b : Bool) : List PI := if b then k.l else k.r
def eats (k : Sk) (b : Bool) (t : Int) : Bool := decide (t = k.row) && match k.ah b with
  | [] => false
  | h :: _ => decide (h.a = k.s)
def farOf (k : Sk) (b : Bool) (t : Int) : Int := if eats k b t then 1 + (match k.ah b with
  | [] => 0
  | h :: _ => h.b) else 1
def ahOf (k : Sk) (b : Bool) (t : Int) : List PI := if eats k b t then (k.ah b).drop 1 else k.ah b
def stepS (k : Sk) (b : Bool) (p t : Int) : Sk :=
  ⟨if b then laid (k.bh b) p (farOf k b t) else (takn (ahOf k b t)).2, if b then (takn (ahOf k b t)).2 else laid (k.bh b) p (farOf k b t), (takn (ahOf k b t)).1, t, k.st + farOf k b t⟩
def nevr (k : Sk) (b : Bool) (t : Int) : Bool := decide (t = k.row) && (decide (k.s = 0) && decide (k.ah b = []))
def tNev : TStr := ⟨"never", by decide +kernel⟩
def tOnn : TStr := ⟨"on", by decide +kernel⟩
def strd (M : Mach) : Nat → Sk → TStr × Sk
  | 0, k => (tOnn, k)
  | n + 1, k => match entAt M k.row k.s with
    | .emp => (tEnd, k)
    | .go p w t => if nevr k (decide (w = 1)) t = true then (tNev, k) else strd M n (if n = 0 then k else stepS k (decide (w = 1)) p t)
structure OkK (R S : Nat) (k : Sk) : Prop where
  l : OkS S k.l
  r : OkS S k.r
  s0 : 0 ≤ k.s
  s1 : k.s < S
  r0 : 0 ≤ k.row
  r1 : k.row < R
theorem OkK.ah {R S : Nat} {k : Sk} (h : OkK R S k) (b : Bool) : OkS S (k.ah b) := by
  cases b
  · exact h.l
  · exact h.r
theorem OkK.bh {R S : Nat} {k : Sk} (h : OkK R S k) (b : Bool) : OkS S (k.bh b) := by
  cases b
  · exact h.r
  · exact h.l
theorem OkS.drop {S : Nat} {l : List PI} (h : OkS S l) : OkS S (l.drop 1) := fun q z => h q (List.mem_of_mem_drop z)
theorem far_pos {R S : Nat} {k : Sk} (h : OkK R S k) (b : Bool) (t : Int) : 1 ≤ farOf k b t := by
  unfold farOf
  split
  · have z := h.ah b
    cases e : k.ah b with
    | nil => simp
    | cons x r =>
      rw [e] at z
      have := (z x (List.mem_cons_self ..)).2
      show 1 ≤ 1 + x.b
      omega
  · omega
theorem ahOf_ok {R S : Nat} {k : Sk} (h : OkK R S k) (b : Bool) (t : Int) : OkS S (ahOf k b t) := by
  unfold ahOf
  split
  · exact (h.ah b).drop
  · exact h.ah b
theorem OkK.step {R S : Nat} {k : Sk} (h : OkK R S k) (b : Bool) {p t : Int} (S1 : 1 ≤ S) (p0 : 0 ≤ p) (p1 : p < S) (t0 : 0 ≤ t) (t1 : t < R) : OkK R S (stepS k b p t) := by
  have z := takn_ok (ahOf_ok h b t) S1
  have y := laid_ok (h.bh b) p0 p1 (far_pos h b t)
  cases b
  · exact ⟨z.1, y, z.2.1, z.2.2, t0, t1⟩
  · exact ⟨y, z.1, z.2.1, z.2.2, t0, t1⟩
def LenK (k : Sk) (n : Nat) : Prop := k.l.length ≤ n ∧ k.r.length ≤ n
theorem LenK.ah {k : Sk} {n : Nat} (h : LenK k n) (b : Bool) : (k.ah b).length ≤ n := by
  cases b
  · exact h.1
  · exact h.2
theorem LenK.bh {k : Sk} {n : Nat} (h : LenK k n) (b : Bool) : (k.bh b).length ≤ n := by
  cases b
  · exact h.2
  · exact h.1
theorem ahOf_len {k : Sk} {b : Bool} {t : Int} : (ahOf k b t).length ≤ (k.ah b).length := by
  unfold ahOf
  split
  · rw [List.length_drop]; omega
  · omega
theorem LenK.step {k : Sk} {n : Nat} (h : LenK k n) (b : Bool) {p t : Int} : LenK (stepS k b p t) (n + 1) := by
  have x := @takn_len (ahOf k b t)
  have y := @laid_len (k.bh b) p (farOf k b t)
  have z := @ahOf_len k b t
  have a := h.ah b
  have c := h.bh b
  cases b
  · exact ⟨by show (takn _).2.length ≤ _; omega, by show (laid _ _ _).length ≤ _; omega⟩
  · exact ⟨by show (laid _ _ _).length ≤ _; omega, by show (takn _).2.length ≤ _; omega⟩
/-! two sides: ahead, behind -/
def sd (b : Bool) (x y : V) : List V := [if b then y else x, if b then x else y]
theorem sd_mk (b : Bool) (v w : V) : [v, w] = sd b (if b then w else v) (if b then v else w) := by cases b <;> rfl
theorem sd_at {b : Bool} {x y : V} : atI (sd b x y) (if b = true then 1 else 0) = some x := by cases b <;> rfl
theorem sd_bt {b : Bool} {x y : V} : atI (sd b x y) (1 - (if b = true then 1 else 0)) = some y := by cases b <;> rfl
theorem sd_ia {b : Bool} {x y : V} : ixN (sd b x y).length (if b = true then 1 else 0) = some (if b = true then 1 else 0) := by cases b <;> rfl
theorem sd_ib {b : Bool} {x y : V} : ixN (sd b x y).length (1 - (if b = true then 1 else 0)) = some (if b = true then 0 else 1) := by cases b <;> rfl
theorem sd_sa {b : Bool} {x y z : V} : (sd b x y).set (if b = true then 1 else 0) z = sd b z y := by cases b <;> rfl
theorem sd_sb {b : Bool} {x y z : V} : (sd b x y).set (if b = true then 0 else 1) z = sd b x z := by cases b <;> rfl
theorem Ow.sdb {H F H1 : Hp} {q : Addr} {b : Bool} {x y : V} (w : Ow H F H1 q (.lst (sd b x y))) (z : V) : Ow H F (upd H1 q (.lst (sd b x z))) q (.lst (sd b x z)) := w.set
theorem Gr.sdb {mu : Addr → Prop} {H0 H F H1 : Hp} {q : Addr} {b : Bool} {x y : V} (g : Gr mu H0 H F H1) (w : Ow H F H1 q (.lst (sd b x y))) (z : V) : Gr mu H0 H F (upd H1 q (.lst (sd b x z))) := g.set w.f (.inl w.n)
abbrev Res4 := T4 TStr Int Int Rs
def resOf (z : TStr × Sk) : Res4 := ⟨z.1, z.2.st, z.2.row, ⟨z.2.l.reverse, z.2.s, z.2.r⟩⟩
theorem is_ah {F : Hp} {v0 v1 : V} {k : Sk} (h0 : Is F v0 k.l) (h1 : Is F v1 k.r) (b : Bool) : Is F (if b = true then v1 else v0) (k.ah b) ∧ Is F (if b = true then v0 else v1) (k.bh b) := by
  cases b
  · exact ⟨h0, h1⟩
  · exact ⟨h1, h0⟩
def k0Of (x : Rs) (row : Int) : Sk := ⟨x.a.reverse, x.c, x.b, row, 0⟩
/-! ### the program's strip -/
def sdD (a b : Addr) : List (Key × V) := [(Sum.inl (-1), .ref a), (Sum.inl 1, .ref b)]
theorem sd_dg {H : Hp} {d a b : Addr} (h : H d = some (.dK (sdD a b))) {w : Int} (hw : w = -1 ∨ w = 1) : DGet H d (.int w) (some (.ref (if decide (w = 1) = true then b else a))) := by
  rcases hw with rfl | rfl
  · exact DGet.k (k := Sum.inl (-1)) h
  · exact DGet.k (k := Sum.inl 1) h
theorem sd_dgn {H : Hp} {d a b : Addr} (h : H d = some (.dK (sdD a b))) {w : Int} (hw : w = -1 ∨ w = 1) : DGet H d (.int (-w)) (some (.ref (if decide (w = 1) = true then a else b))) := by
  rcases hw with rfl | rfl
  · exact DGet.k (k := Sum.inl 1) h
  · exact DGet.k (k := Sum.inl (-1)) h
structure StAt (C : Addr) (F H : Hp) (o d a b : Addr) (k : Sk) : Prop where
  ob : ∃ dx, H o = some (.ins C dx (Strip_F (.ref d) (.int k.s) (.int k.row) (.int k.st)))
  dd : F d = some (.dK (sdD a b))
  la : LsAt F H a k.l
  lb : LsAt F H b k.r
  fo : F o = none
  ab : a ≠ b
theorem LsAt.ne {F H : Hp} {a o : Addr} {l : List PI} {C dx : Addr} {fs : List (Str × V)} (x : LsAt F H a l) (h : H o = some (.ins C dx fs)) : a ≠ o := by
  obtain ⟨⟨xs, h1, _⟩, _⟩ := x
  exact ne_of h1 h (by intro z; cases z)
abbrev muS (o a b : Addr) : Addr → Prop := fun c => c = o ∨ c = a ∨ c = b
theorem StAt.gr {mu : Addr → Prop} {C : Addr} {F H F' H' : Hp} {o d a b : Addr} {k : Sk} (x : StAt C F H o d a b k) (g : Gr mu F H F' H') (m : ∀ c, mu c → c ≠ o ∧ c ≠ a ∧ c ≠ b) : StAt C F' H' o d a b k := by
  obtain ⟨⟨dx, ho⟩, dd, la, lb, fo, ab⟩ := x
  exact ⟨⟨dx, g.fr _ _ ho fun z => (m _ z).1 rfl⟩, g.ff _ _ dd, la.gr g fun z => (m _ z).2.1 rfl, lb.gr g fun z => (m _ z).2.2 rfl, g.pf0 fo ho, ab⟩
theorem merge_sd {a b : Addr} : mergeK [] [(Sum.inl (-1), V.ref a), (Sum.inl 1, V.ref b)] = sdD a b := rfl
def sp_Strip_init (C : Addr) : Sp := fun vs H Q _ => ∃ (F : Hp) (g dx : Addr) (v : V) (x : Rs) (row : Int), vs = [.ref g, .int row, v] ∧ H g = some (.ins C dx []) ∧ F g = none ∧ Same F H ∧ Is F v x ∧
  ∀ (F' H' : Hp) (d a b : Addr), Gr (muP g) F H F' H' → H d = none → H a = none → H b = none → StAt C F' H' g d a b (k0Of x row) → Q .non H'
theorem ok_Strip_init (t : Tx K mg) : FnOk P w K mg base CX0 1 t.a_Strip_init t.fd_Strip_init ["self", "row", "runs"] (sp_Strip_init t.C_Strip) := by
  refine t.F_Strip_init.ok sc_Strip_init (fun vs H Q E h => ?_) (fun cdv A outer s H vs Q E hr h => ?_)
  · obtain ⟨F, g, dx, v, x, row, rfl, _⟩ := h
    rfl
  · obtain ⟨F, g, dx, v, x, row, rfl, hg, fg, sF, hv, q⟩ := h
    refine ⟨_, (pss_cons (ps_asg (pv 2) (pg_tup rfl (pgs_cons (pg_name (i := 3) sc_Strip_init.nd rfl (by first | exact Or.inl rfl | exact Or.inr rfl)) (pgs_cons (pg_name (i := 4) sc_Strip_init.nd rfl (by first | exact Or.inl rfl | exact Or.inr rfl)) (pgs_cons (pg_name (i := 5) sc_Strip_init.nd rfl (by first | exact Or.inl rfl | exact Or.inr rfl)) pgs_nil)))))
      (pss_cons (ps_fld (pv 0) (pe_disp (pps_cons (pe_un un_neg pe_int) (pe_callTy (T := "list") call_listQ (by rfl) t.n_list (by decide +kernel) (pa_cons (pv 3) pa_nil)) (pps_cons pe_int (pe_revL (pv 5)) pps_nil)) (by rfl) (by rfl) (fun z => by cases z) (by decide)) rfl)
      (pss_cons (ps_fld (pv 0) (pv 4) rfl)
      (pss_cons (ps_fld (pv 0) (pv 1) rfl)
      (pss_one (ps_fld (pv 0) pe_int rfl)))))), ?_⟩
    obtain ⟨p, x1, x2, x3, rfl, hp, ⟨a0, xs, rfl, ha, hxs⟩, e2, ⟨c0, zs, rfl, hc, hzs⟩⟩ := hv
    have e2 : x2 = .int x.b := e2
    subst e2
    have g0 : Gr (muP g) F H F H := Gr.refl sF
    refine ⟨_, rfl, p, _, rfl, SqT.of (sF _ _ hp), rfl, _, _, rfl, _, _, rfl, _, _, rfl, rfl, ?_⟩
    refine fun d nd => ?_
    have gd : g ≠ d := ne_of_none hg nd
    have g1 := g0.own (o := .dK []) nd
    have w1 : Ow H F (upd H d (.dK [])) d (.dK []) := Ow.mk1 g0 nd
    have hg1 := ln (u := .dK []) nd hg
    generalize upd H d (.dK []) = H1 at g1 w1 hg1 ⊢
    refine ⟨_, rfl, _, rfl, a0, xs, rfl, .inl (SqL.of (g1.fh _ _ ha)), fun a na => ?_⟩
    have g2 := g1.own (o := .lst xs) na
    have w2 := w1.own (u := .lst xs) na
    have wa2 : Ow H F (upd H1 a (.lst xs)) a (.lst xs) := Ow.mk1 g1 na
    have hg2 := ln (u := .lst xs) na hg1
    have ga : g ≠ a := ne_of_none hg1 na
    have da : d ≠ a := w1.ne na
    generalize upd H1 a (.lst xs) = H2 at g2 w2 wa2 hg2 ⊢
    refine ⟨_, rfl, c0, zs, rfl, SqL.of (g2.fh _ _ hc), fun b nb => ?_⟩
    have g3 := g2.own (o := .lst zs.reverse) nb
    have w3 := w2.own (u := .lst zs.reverse) nb
    have wa3 := wa2.own (u := .lst zs.reverse) nb
    have wb3 : Ow H F (upd H2 b (.lst zs.reverse)) b (.lst zs.reverse) := Ow.mk1 g2 nb
    have hg3 := ln (u := .lst zs.reverse) nb hg2
    have gb : g ≠ b := ne_of_none hg2 nb
    have db : d ≠ b := w2.ne nb
    have ab : a ≠ b := wa2.ne nb
    generalize upd H2 b (.lst zs.reverse) = H3 at g3 w3 wa3 wb3 hg3 ⊢
    refine ⟨w3.h, [(Sum.inl (-1), .ref a), (Sum.inl 1, .ref b)], rfl, (by show 2 ≤ 15; decide), ?_⟩
    rw [merge_sd]
    have g4 := g3.set (o := .dK (sdD a b)) w3.f (.inl w3.n)
    have w4 := w3.set (u := .dK (sdD a b))
    have wa4 := wa3.other (u := .dK (sdD a b)) (Ne.symm da)
    have wb4 := wb3.other (u := .dK (sdD a b)) (Ne.symm db)
    have hg4 : (upd H3 d (.dK (sdD a b))) g = some (.ins t.C_Strip dx []) := by rw [upd_ne gd]; exact hg3
    generalize upd H3 d (.dK (sdD a b)) = H4 at g4 w4 wa4 wb4 hg4 ⊢
    have g5 := g4.frz w4.h w4.n w4.f
    have wa5 := wa4.frz' (u := .dK (sdD a b)) (Ne.symm da)
    have wb5 := wb4.frz' (u := .dK (sdD a b)) (Ne.symm db)
    have fg5 : (upd F d (.dK (sdD a b))) g = none := by rw [upd_ne gd]; exact fg
    have fd5 : (upd F d (.dK (sdD a b))) d = some (.dK (sdD a b)) := upd_same
    have s5 : Same F (upd F d (.dK (sdD a b))) := g5.ff
    have hxs5 := IsAll.up hxs s5
    have hzs5 := IsAll.up hzs s5
    generalize upd F d (.dK (sdD a b)) = F5 at g5 wa5 wb5 fg5 fd5 hxs5 hzs5
    refine ⟨_, rfl, g, t.C_Strip, dx, [], rfl, hg4, t.cl_Strip, t.nA_Strip_sides, by show 0 < 1000; decide, ?_⟩
    rw [Strip_mk0]
    have g6 := g5.set (o := .ins t.C_Strip dx [("sides", .ref d)]) fg5 (.inr rfl)
    refine ⟨_, rfl, _, rfl, g, t.C_Strip, dx, _, rfl, upd_same, t.cl_Strip, t.nA_Strip_sign, by show 1 < 1000; decide, ?_⟩
    rw [Strip_mk1]
    have g7 := g6.set (o := .ins t.C_Strip dx [("sides", .ref d), ("sign", .int x.b)]) fg5 (.inr rfl)
    refine ⟨_, rfl, _, rfl, g, t.C_Strip, dx, _, rfl, upd_same, t.cl_Strip, t.nA_Strip_row, by show 2 < 1000; decide, ?_⟩
    rw [Strip_mk2]
    have g8 := g7.set (o := .ins t.C_Strip dx [("sides", .ref d), ("sign", .int x.b), ("row", .int row)]) fg5 (.inr rfl)
    refine ⟨_, rfl, g, t.C_Strip, dx, _, rfl, upd_same, t.cl_Strip, t.nA_Strip_steps, by show 3 < 1000; decide, ?_⟩
    rw [Strip_mk3]
    have g9 := g8.set (o := .ins t.C_Strip dx [("sides", .ref d), ("sign", .int x.b), ("row", .int row), ("steps", .int 0)]) fg5 (.inr rfl)
    refine q F5 _ d a b g9 w3.n wa3.n wb3.n ⟨⟨dx, upd_same⟩, fd5, ⟨⟨xs, ?_, ?_⟩, wa5.f⟩, ⟨⟨zs.reverse, ?_, ?_⟩, wb5.f⟩, fg5, ab⟩
    · rw [upd_ne (Ne.symm ga), upd_ne (Ne.symm ga), upd_ne (Ne.symm ga), upd_ne (Ne.symm ga)]; exact wa5.h
    · show IsAll F5 xs x.a.reverse.reverse
      rw [List.reverse_reverse]; exact hxs5
    · rw [upd_ne (Ne.symm gb), upd_ne (Ne.symm gb), upd_ne (Ne.symm gb), upd_ne (Ne.symm gb)]; exact wb5.h
    · exact hzs5.rev
def sp_Strip_told (C : Addr) : Sp := fun vs H Q _ => ∃ (F : Hp) (o d a b : Addr) (k : Sk), vs = [.ref o] ∧ Same F H ∧ StAt C F H o d a b k ∧
  ∀ (F' H' : Hp) (t l1 l2 : Addr) (xs1 xs2 : List V), Gr mu0 F H F' H' → F' t = some (.tup [.ref l1, .int k.s, .ref l2]) → Ow H F' H' l1 (.lst xs1) → Ow H F' H' l2 (.lst xs2) → l1 ≠ l2 → IsAll F' xs1 k.l.reverse → IsAll F' xs2 k.r → Q (.ref t) H'
theorem ok_Strip_told (t : Tx K mg) : FnOk P w K mg base CX0 1 t.a_Strip_told t.fd_Strip_told ["self"] (sp_Strip_told t.C_Strip) := by
  refine t.F_Strip_told.ok sc_Strip_told (fun vs H Q E h => ?_) (fun cdv A outer s H vs Q E hr h => ?_)
  · obtain ⟨F, o, d, a, b, k, rfl, _⟩ := h
    rfl
  · obtain ⟨F, o, d, a, b, k, rfl, sF, hS, q⟩ := h
    refine ⟨_, (pss_one (ps_ret (pe_tup (pa_cons (pe_callTy (T := "list") call_listQ (by rfl) t.n_list (by decide +kernel) (pa_cons (pe_dget (hu_of hr) (pe_fld (pv 0) rfl) (pe_un un_neg pe_int) (fun _ _ => rfl)) pa_nil)) (pa_cons (pe_fld (pv 0) rfl) (pa_cons (pe_revL (pe_dget (hu_of hr) (pe_fld (pv 0) rfl) pe_int (fun _ _ => rfl))) pa_nil)))))), ?_⟩
    obtain ⟨⟨dx, ho⟩, dd, ⟨⟨xs, hxa, ixs⟩, fa⟩, ⟨⟨zs, hzb, izs⟩, fb⟩, fo, ab⟩ := hS
    have g0 : Gr mu0 F H F H := Gr.refl sF
    refine ⟨_, rfl, o, t.C_Strip, dx, _, _, rfl, ho, t.cl_Strip, t.nA_Strip_sides, Strip_get_sides, _, rfl, d, _, rfl, sd_dg (sF _ _ dd) (.inl rfl), a, xs, rfl, .inl (SqL.of hxa), fun l1 n1 => ?_⟩
    have g1 := g0.own (o := .lst xs) n1
    have ho1 := ln (u := .lst xs) n1 ho
    have hzb1 := ln (u := .lst xs) n1 hzb
    have w1 : Ow H F (upd H l1 (.lst xs)) l1 (.lst xs) := Ow.mk1 g0 n1
    generalize upd H l1 (.lst xs) = H1 at g1 ho1 hzb1 w1 ⊢
    refine ⟨_, rfl, o, t.C_Strip, dx, _, _, rfl, ho1, t.cl_Strip, t.nA_Strip_sign, Strip_get_sign, ?_⟩
    refine ⟨_, rfl, o, t.C_Strip, dx, _, _, rfl, ho1, t.cl_Strip, t.nA_Strip_sides, Strip_get_sides, d, _, rfl, sd_dg (g1.fh _ _ dd) (.inr rfl), b, zs, rfl, SqL.of hzb1, fun l2 n2 => ⟨three_le, fun u nu => ?_⟩⟩
    have g2 := g1.own (o := .lst zs.reverse) n2
    have w12 := w1.own (u := .lst zs.reverse) n2
    have w2 : Ow H F (upd H1 l2 (.lst zs.reverse)) l2 (.lst zs.reverse) := Ow.mk1 g1 n2
    have l12 : l1 ≠ l2 := w1.ne n2
    have g3 := g2.new (o := .tup [.ref l1, .int k.s, .ref l2]) nu
    have w13 := w12.new (u := .tup [.ref l1, .int k.s, .ref l2]) nu
    have w23 := w2.new (u := .tup [.ref l1, .int k.s, .ref l2]) nu
    refine q _ _ u l1 l2 xs zs.reverse g3 upd_same w13 w23 l12 (IsAll.up ixs g3.ff) ?_
    have z := (IsAll.up izs g3.ff).rev
    rw [List.reverse_reverse] at z
    exact z
theorem muA {o a b : Addr} {bb : Bool} {c : Addr} : muP (if bb = true then b else a) c → muS o a b c := fun z => by
  have z : c = _ := z
  rw [z]
  cases bb
  · exact .inr (.inl rfl)
  · exact .inr (.inr rfl)
theorem muB {o a b : Addr} {bb : Bool} {c : Addr} : muP (if bb = true then a else b) c → muS o a b c := fun z => by
  have z : c = _ := z
  rw [z]
  cases bb
  · exact .inr (.inr rfl)
  · exact .inr (.inl rfl)
theorem StAt.sides {C : Addr} {F H : Hp} {o d a b : Addr} {k : Sk} (x : StAt C F H o d a b k) (bb : Bool) : LsAt F H (if bb = true then b else a) (k.ah bb) ∧ LsAt F H (if bb = true then a else b) (k.bh bb) ∧ (if bb = true then b else a) ≠ (if bb = true then a else b) := by
  cases bb
  · exact ⟨x.la, x.lb, x.ab⟩
  · exact ⟨x.lb, x.la, Ne.symm x.ab⟩
theorem ls_back {F H : Hp} {a b : Addr} {l m : List PI} (bb : Bool) (h : LsAt F H (if bb = true then b else a) l) (h' : LsAt F H (if bb = true then a else b) m) : LsAt F H a (if bb = true then m else l) ∧ LsAt F H b (if bb = true then l else m) := by
  cases bb
  · exact ⟨h, h'⟩
  · exact ⟨h', h⟩
theorem far_no {k : Sk} {b : Bool} {t : Int} (h : eats k b t = false) : farOf k b t = 1 := by
  unfold farOf
  rw [if_neg (by rw [h]; exact Bool.false_ne_true)]
theorem ah_no {k : Sk} {b : Bool} {t : Int} (h : eats k b t = false) : ahOf k b t = k.ah b := by
  unfold ahOf
  rw [if_neg (by rw [h]; exact Bool.false_ne_true)]
theorem not_or3 {o a b A : Addr} (h : A = a ∨ A = b) (ao : a ≠ o) (bo : b ≠ o) : A ≠ o := by
  rcases h with h | h
  · rw [h]; exact ao
  · rw [h]; exact bo
theorem ifAB {a b : Addr} (bb : Bool) : (if bb = true then b else a) = a ∨ (if bb = true then b else a) = b := by
  cases bb
  · exact .inl rfl
  · exact .inr rfl
def sp_Strip_stride (C : Addr) : Sp := fun vs H Q _ => ∃ (F : Hp) (o d a b : Addr) (k : Sk) (pu wa : Int) (R S : Nat), vs = [.ref o, .int pu, .int wa] ∧ Same F H ∧ StAt C F H o d a b k ∧ (wa = -1 ∨ wa = 1) ∧ OkK R S k ∧ LenK k 1500 ∧
  ∀ (F' H' : Hp), Gr (muS o a b) F H F' H' → StAt C F' H' o d a b (stepS k (decide (wa = 1)) pu k.row) → Q .non H'
theorem ok_Strip_stride (t : Tx K mg) : FnOk P w K mg base CX0 2 t.a_Strip_stride t.fd_Strip_stride ["self", "put", "way"] (sp_Strip_stride t.C_Strip) := by
  refine t.F_Strip_stride.ok sc_Strip_stride (fun vs H Q E h => ?_) (fun cdv A outer s H vs Q E hr h => ?_)
  · obtain ⟨F, o, d, a, b, k, pu, wa, R, S, rfl, _⟩ := h
    rfl
  · obtain ⟨F, o, d, a, b, k, pu, wa, R, S, rfl, sF, hS, hw, ok, lk, q⟩ := h
    refine ⟨_, (pss_cons (ps_set (i := 3) sc_Strip_stride.nd rfl (by first | exact Or.inl rfl | exact Or.inr rfl) (pe_dget (hu_of hr) (pe_fld (pv 0) rfl) (pv 2) (fun _ _ => rfl)))
      (pss_cons (ps_set (i := 4) sc_Strip_stride.nd rfl (by first | exact Or.inl rfl | exact Or.inr rfl) pe_int)
      (pss_cons (ps_if (PW.pt (pw_and (pt_cmpR (op_neD hr.units) (pv 3) (pe_lst pa_nil) (nomark _)) (pw_and1 (pt_cmpR op_eq (pe_ix ix_tup (pe_ix ix_list (pv 3) (pe_un un_neg pe_int) (fun _ _ => rfl)) pe_int (fun _ _ => rfl)) (pe_fld (pv 0) rfl) (nomark _))))) (pss_one (ps_aug (i := 4) sc_Strip_stride.nd rfl (by first | exact Or.inl rfl | exact Or.inr rfl) (pe_ix ix_tup (pe_bm0 PySem.F.plainAttrs_list PySem.F.slot_list_pop PySem.F.type_list_pop mt_pop (pv 3)) pe_int (fun _ _ => rfl)) ip_add)) pss_nil)
      (pss_cons (ps_expr (pe_call (ok_put_run t) (hr.mono (by decide)) (by rfl) t.m_put_run t.F_put_run.kp t.b_put_run .nil pass0 (pa_cons (pe_dget (hu_of hr) (pe_fld (pv 0) rfl) (pe_un un_neg (pv 2)) (fun _ _ => rfl)) (pa_cons (pv 1) (pa_cons (pv 4) pa_nil)))))
      (pss_cons (ps_fld (pv 0) (pe_call (ok_taken t) (hr.mono (by decide)) (by rfl) t.m_taken t.F_taken.kp t.b_taken .nil pass0 (pa_cons (pv 3) pa_nil)) rfl)
      (pss_one (ps_fldaug (pv 0) (pv 4) in_add))))))), ?_⟩
    have dga := fun (H : Hp) (h : H d = some (.dK (sdD a b))) => sd_dg h hw
    have dgb := fun (H : Hp) (h : H d = some (.dK (sdD a b))) => sd_dgn h hw
    generalize decide (wa = 1) = bb at q dga dgb
    obtain ⟨lA, lB, hAB⟩ := hS.sides bb
    have mA : ∀ c, muP (if bb = true then b else a) c → muS o a b c := fun c z => muA z
    have mB : ∀ c, muP (if bb = true then a else b) c → muS o a b c := fun c z => muB z
    have back := fun (F H : Hp) (l m : List PI) => @ls_back F H a b l m bb
    obtain ⟨⟨dx, ho⟩, dd, la, lb, fo, ab⟩ := hS
    have oA := lA.ne ho
    have oB := lB.ne ho
    generalize (if bb = true then b else a) = aA at lA hAB mA back dga oA
    generalize (if bb = true then a else b) = aB at lB hAB mB back dgb oB
    have g0 : Gr (muS o a b) F H F H := Gr.refl sF
    have lenA := lk.ah bb
    have lenB := lk.bh bb
    have posA := ok.ah bb
    refine ⟨_, rfl, o, t.C_Strip, dx, _, _, rfl, ho, t.cl_Strip, t.nA_Strip_sides, Strip_get_sides, _, rfl, d, _, rfl, dga _ (sF _ _ dd), ?_⟩
    refine ⟨_, rfl, nil_le, fun e1 ne1 => ?_⟩
    have gA := g0.own (o := .lst []) ne1
    have k1 := (Gr.refl (mu := mu0) sF).own (o := .lst []) ne1
    have lA1 := lA.gr k1 fun z => z
    have lB1 := lB.gr k1 fun z => z
    have ho1 := ln (u := .lst []) ne1 ho
    refine ne_dat (a := (k.ah bb).reverse) (b := ([] : List PI)) (lA1.is k1.fh) (is_nil upd_same) ⟨_, rfl, ?_⟩
    rw [rev_nil_iff]
    generalize upd H e1 (.lst []) = H1 at gA lA1 lB1 ho1 ⊢
    refine ite2 (fun c1 => ?E1) (fun c1 => ?E0)
    case' E1 =>
      have eah : ∃ hd tl, k.ah bb = hd :: tl := by
        cases e : k.ah bb with
        | nil => rw [e] at c1; simp at c1
        | cons a b => exact ⟨_, _, rfl⟩
      obtain ⟨hd, tl, eah⟩ := eah
      obtain ⟨⟨xs, h, i⟩, f⟩ := id lA1
      rw [eah, List.reverse_cons] at i
      obtain ⟨ys, y, rfl, iy, p, y1, y2, rfl, hp, e1', e2'⟩ := i.snoc
      have e1' : y1 = .int hd.a := e1'
      have e2' : y2 = .int hd.b := e2'
      subst e1'
      subst e2'
      refine ⟨_, rfl, _, rfl, aA, _, _, _, rfl, rfl, SqL.of h, atI_last _ _, p, _, _, _, rfl, rfl, SqT.of (gA.fh _ _ hp), atI_nat (j := 0) rfl, _, rfl, o, t.C_Strip, dx, _, _, rfl, ho1, t.cl_Strip, t.nA_Strip_sign, Strip_get_sign, rfl, _, rfl, ?_⟩
      rw [int_eq]
      refine ite2 (fun c7 => ?E5) (fun c7 => ?E4)
    case' E5 =>
      refine ⟨_, rfl, _, rfl, .inl ⟨rfl, _, SqL.of h⟩, aA, _, .ref p, rfl, rfl, h, (by simp), ?_⟩
      rw [List.dropLast_concat]
      have gz := gA.set (o := .lst ys) f (.inr (mA aA rfl))
      refine ⟨p, _, _, _, rfl, rfl, SqT.of (gz.fh _ _ hp), atI_nat (j := 1) rfl, _, _, rfl, rfl, ?_⟩
      have ea : eats k bb k.row = true := by
        unfold eats
        rw [eah, decide_eq_true rfl]
        show (true && decide (hd.a = k.s)) = true
        rw [c7]; rfl
      have ef : farOf k bb k.row = 1 + hd.b := by
        unfold farOf
        rw [if_pos ea, eah]
      have lAz : LsAt F (upd H1 aA (.lst ys)) aA (ahOf k bb k.row) := by
        unfold ahOf
        rw [if_pos ea, eah]
        exact ⟨⟨ys, upd_same, iy⟩, f⟩
      have lBz := lB1.gr ((Gr.refl (mu := muP aA) gA.fh).set (o := .lst ys) f (.inr rfl)) (fun z => hAB (show aB = aA from z).symm)
      have hoz := (upd_ne (H := H1) (o := .lst ys) (Ne.symm oA)).trans ho1
      generalize upd H1 aA (.lst ys) = Hz at gz lAz lBz hoz ⊢
    case' E4 =>
      have ea : eats k bb k.row = false := by
        unfold eats
        rw [eah, decide_eq_true rfl]
        show (true && decide (hd.a = k.s)) = false
        rw [Bool.eq_false_iff.mpr c7]; rfl
    case' E0 =>
      refine ifF rfl ?_
      have ea : eats k bb k.row = false := by
        unfold eats
        have eah : k.ah bb = [] := by
          refine Decidable.byContradiction fun z => c1 ?_
          rw [decide_eq_false z]; rfl
        rw [eah]
        exact Bool.and_false _
    case' E4 | E0 =>
      have ef := far_no ea
      have lAz := lA1
      rw [← ah_no ea] at lAz
      have gz := gA
      have lBz := lB1
      have hoz := ho1
    all_goals
      refine ⟨_, rfl, o, t.C_Strip, dx, _, _, rfl, hoz, t.cl_Strip, t.nA_Strip_sides, Strip_get_sides, _, rfl, _, rfl, d, _, rfl, dgb _ (gz.fh _ _ dd), _, rfl, _, rfl, F, aB, k.bh bb, pu, farOf k bb k.row, by rw [ef]; exact rfl, gz.fh, lBz, by omega, fun F5 H5 g5 l5 => ?_⟩
      have gz5 := gz.trans (g5.weak mB)
      have lA5 := lAz.gr g5 (fun z => hAB z)
      have ho5 := g5.fr _ _ hoz (fun z => oB (show o = aB from z).symm)
      refine ⟨_, rfl, F5, aA, ahOf k bb k.row, rfl, gz5.fh, lA5, by have := @ahOf_len k bb k.row; omega, fun q0 z => (ahOf_ok ok bb k.row q0 z).2, fun F6 H6 g6 l6 => ?_⟩
      have gz6 := gz5.trans (g6.weak mA)
      have lB6 := l5.gr g6 (fun z => hAB (show aB = aA from z).symm)
      have ho6 := g6.fr _ _ ho5 (fun z => oA (show o = aA from z).symm)
      have fo6 : F6 o = none := gz6.pf0 fo ho
      have dd6 := gz6.ff _ _ dd
      refine ⟨_, rfl, o, t.C_Strip, dx, _, rfl, ho6, t.cl_Strip, t.nA_Strip_sign, Strip_few, ?_⟩
      rw [Strip_put_sign]
      have g7 := gz6.set (o := .ins t.C_Strip dx (Strip_F (.ref d) (.int (takn (ahOf k bb k.row)).1) (.int k.row) (.int k.st))) fo6 (.inr (.inl rfl))
      have h7 : (upd H6 o (.ins t.C_Strip dx (Strip_F (.ref d) (.int (takn (ahOf k bb k.row)).1) (.int k.row) (.int k.st)))) o = _ := upd_same
      refine ⟨_, rfl, o, t.C_Strip, dx, _, _, rfl, h7, t.cl_Strip, t.nA_Strip_steps, Strip_get_steps, _, rfl, _, _, rfl, rfl, _, _, h7, Strip_few, ?_⟩
      rw [Strip_put_steps]
      have g8 := g7.set (o := .ins t.C_Strip dx (Strip_F (.ref d) (.int (takn (ahOf k bb k.row)).1) (.int k.row) (.int (k.st + farOf k bb k.row)))) fo6 (.inr (.inl rfl))
      rw [upd_upd] at g8
      obtain ⟨b1, b2⟩ := back F6 H6 _ _ l6 lB6
      have off : ∀ {c : Addr} {l : List PI} {u : HO}, c ≠ o → LsAt F6 H6 c l → LsAt F6 (upd H6 o u) c l := fun n x => ⟨by
        obtain ⟨⟨xs, h, i⟩, f⟩ := x
        exact ⟨xs, by rw [upd_ne n]; exact h, i⟩, x.f⟩
      have z := q F6 _ g8 ⟨⟨dx, upd_same⟩, dd6, off (la.ne ho) b1, off (lb.ne ho) b2, fo6, ab⟩
      rw [ef] at z
      rw [upd_upd]
      exact z
def sp_Strip_step (C : Addr) : Sp := fun vs H Q _ => ∃ (F : Hp) (o d a b : Addr) (k : Sk) (pu wa to : Int) (R S : Nat), vs = [.ref o, .int pu, .int wa, .int to] ∧ Same F H ∧ StAt C F H o d a b k ∧ (wa = -1 ∨ wa = 1) ∧ to ≠ k.row ∧ OkK R S k ∧ LenK k 1500 ∧
  ∀ (F' H' : Hp), Gr (muS o a b) F H F' H' → StAt C F' H' o d a b (stepS k (decide (wa = 1)) pu to) → Q .non H'
theorem ok_Strip_step (t : Tx K mg) : FnOk P w K mg base CX0 2 t.a_Strip_step t.fd_Strip_step ["self", "put", "way", "row"] (sp_Strip_step t.C_Strip) := by
  refine t.F_Strip_step.ok sc_Strip_step (fun vs H Q E h => ?_) (fun cdv A outer s H vs Q E hr h => ?_)
  · obtain ⟨F, o, d, a, b, k, pu, wa, to, R, S, rfl, _⟩ := h
    rfl
  · obtain ⟨F, o, d, a, b, k, pu, wa, to, R, S, rfl, sF, hS, hw, ht, ok, lk, q⟩ := h
    refine ⟨_, (pss_cons (ps_expr (pe_call (ok_put_run t) (hr.mono (by decide)) (by rfl) t.m_put_run t.F_put_run.kp t.b_put_run .nil pass0 (pa_cons (pe_dget (hu_of hr) (pe_fld (pv 0) rfl) (pe_un un_neg (pv 2)) (fun _ _ => rfl)) (pa_cons (pv 1) (pa_cons pe_int pa_nil)))))
      (pss_cons (ps_fld (pv 0) (pe_call (ok_taken t) (hr.mono (by decide)) (by rfl) t.m_taken t.F_taken.kp t.b_taken .nil pass0 (pa_cons (pe_dget (hu_of hr) (pe_fld (pv 0) rfl) (pv 2) (fun _ _ => rfl)) pa_nil)) rfl)
      (pss_cons (ps_fld (pv 0) (pv 3) rfl)
      (pss_one (ps_fldaug (pv 0) pe_int in_add))))), ?_⟩
    have dga := fun (H : Hp) (h : H d = some (.dK (sdD a b))) => sd_dg h hw
    have dgb := fun (H : Hp) (h : H d = some (.dK (sdD a b))) => sd_dgn h hw
    generalize decide (wa = 1) = bb at q dga dgb
    obtain ⟨lA, lB, hAB⟩ := hS.sides bb
    have mA : ∀ c, muP (if bb = true then b else a) c → muS o a b c := fun c z => muA z
    have mB : ∀ c, muP (if bb = true then a else b) c → muS o a b c := fun c z => muB z
    have back := fun (F H : Hp) (l m : List PI) => @ls_back F H a b l m bb
    obtain ⟨⟨dx, ho⟩, dd, la, lb, fo, ab⟩ := hS
    have oA := lA.ne ho
    have oB := lB.ne ho
    generalize (if bb = true then b else a) = aA at lA hAB mA back dga oA
    generalize (if bb = true then a else b) = aB at lB hAB mB back dgb oB
    have gz : Gr (muS o a b) F H F H := Gr.refl sF
    have lenA := lk.ah bb
    have lenB := lk.bh bb
    have ea : eats k bb to = false := by
      unfold eats
      rw [decide_eq_false ht]; rfl
    have ef := far_no ea
    rw [← ah_no ea] at lA
    refine ⟨_, rfl, o, t.C_Strip, dx, _, _, rfl, ho, t.cl_Strip, t.nA_Strip_sides, Strip_get_sides, _, rfl, _, rfl, d, _, rfl, dgb _ (gz.fh _ _ dd), _, rfl, F, aB, k.bh bb, pu, farOf k bb to, by rw [ef]; exact rfl, gz.fh, lB, by omega, fun F5 H5 g5 l5 => ?_⟩
    have gz5 := gz.trans (g5.weak mB)
    have lA5 := lA.gr g5 (fun z => hAB z)
    have ho5 := g5.fr _ _ ho (fun z => oB (show o = aB from z).symm)
    refine ⟨_, rfl, o, t.C_Strip, dx, _, _, rfl, ho5, t.cl_Strip, t.nA_Strip_sides, Strip_get_sides, _, rfl, d, _, rfl, dga _ (gz5.fh _ _ (gz5.ff _ _ dd)), F5, aA, ahOf k bb to, rfl, gz5.fh, lA5, by have := @ahOf_len k bb to; omega, fun q0 z => (ahOf_ok ok bb to q0 z).2, fun F6 H6 g6 l6 => ?_⟩
    have gz6 := gz5.trans (g6.weak mA)
    have lB6 := l5.gr g6 (fun z => hAB (show aB = aA from z).symm)
    have ho6 := g6.fr _ _ ho5 (fun z => oA (show o = aA from z).symm)
    have fo6 : F6 o = none := gz6.pf0 fo ho
    have dd6 := gz6.ff _ _ dd
    refine ⟨_, rfl, o, t.C_Strip, dx, _, rfl, ho6, t.cl_Strip, t.nA_Strip_sign, Strip_few, ?_⟩
    rw [Strip_put_sign]
    have h7 : (upd H6 o (.ins t.C_Strip dx (Strip_F (.ref d) (.int (takn (ahOf k bb to)).1) (.int k.row) (.int k.st)))) o = _ := upd_same
    refine ⟨_, rfl, _, rfl, o, t.C_Strip, dx, _, rfl, h7, t.cl_Strip, t.nA_Strip_row, Strip_few, ?_⟩
    rw [Strip_put_row, upd_upd]
    have h8 : (upd H6 o (.ins t.C_Strip dx (Strip_F (.ref d) (.int (takn (ahOf k bb to)).1) (.int to) (.int k.st)))) o = _ := upd_same
    refine ⟨_, rfl, o, t.C_Strip, dx, _, _, rfl, h8, t.cl_Strip, t.nA_Strip_steps, Strip_get_steps, _, _, rfl, rfl, _, _, h8, Strip_few, ?_⟩
    rw [Strip_put_steps, upd_upd]
    have g8 := gz6.set (o := .ins t.C_Strip dx (Strip_F (.ref d) (.int (takn (ahOf k bb to)).1) (.int to) (.int (k.st + farOf k bb to)))) fo6 (.inr (.inl rfl))
    obtain ⟨b1, b2⟩ := back F6 H6 _ _ l6 lB6
    have off : ∀ {c : Addr} {l : List PI} {u : HO}, c ≠ o → LsAt F6 H6 c l → LsAt F6 (upd H6 o u) c l := fun n x => ⟨by
      obtain ⟨⟨xs, h, i⟩, f⟩ := x
      exact ⟨xs, by rw [upd_ne n]; exact h, i⟩, x.f⟩
    have z := q F6 _ g8 ⟨⟨dx, upd_same⟩, dd6, off (la.ne ho) b1, off (lb.ne ho) b2, fo6, ab⟩
    rw [ef] at z
    exact z
/-! ### by strides -/
def sp_by_strides : Sp := fun vs H Q _ => ∃ (F : Hp) (m v : V) (M : Mach) (R S : Nat) (x : Rs) (row : Int) (n : Nat), vs = [m, .int row, v, .int n] ∧ Same F H ∧ Is F m M ∧ MOk M R S ∧ Is F v x ∧ OkR S x ∧ 0 ≤ row ∧ row < R ∧ n ≤ 600 ∧
  ∀ (F' H' : Hp) (t u l1 l2 : Addr) (xs1 xs2 : List V) (z : TStr × Sk), strd M (n + 1) (k0Of x row) = z → Gr mu0 F H F' H' → F' t = some (.tup [.str z.1.x, .int z.2.st, .int z.2.row, .ref u]) → F' u = some (.tup [.ref l1, .int z.2.s, .ref l2]) →
    Ow H F' H' l1 (.lst xs1) → Ow H F' H' l2 (.lst xs2) → l1 ≠ l2 → IsAll F' xs1 z.2.l.reverse → IsAll F' xs2 z.2.r → Q (.ref t) H'
theorem ok_by_strides (t : Tx K mg) : FnOk P w K mg base CX0 4 t.a_by_strides t.fd_by_strides ["machine", "row", "runs", "many"] sp_by_strides := by
  refine t.F_by_strides.ok sc_by_strides (fun vs H Q E h => ?_) (fun cdv A outer s H vs Q E hr h => ?_)
  · obtain ⟨F, m, v, M, R, S, x, row, n, rfl, _⟩ := h
    rfl
  · obtain ⟨F, m, v, M, R, S, x, row, n, rfl, sF, hm, hM, hv, hx, r0, r1, hn, q⟩ := h
    refine ⟨_, (pss_cons (ps_expr (pe_call (ok_must_machine t) (hr.mono (by decide)) (by rfl) t.m_must_machine t.F_must_machine.kp t.b_must_machine .nil pass0 (pa_cons (pv 0) pa_nil)))
      (pss_cons (ps_set (i := 4) sc_by_strides.nd rfl (by first | exact Or.inl rfl | exact Or.inr rfl) (pe_make t.M_Strip (ok_Strip_init t) (hr.mono (by decide)) (by rfl) t.m_Strip t.b_Strip_init .nil pass0 (pa_cons (pv 1) (pa_cons (pv 2) pa_nil))))
      (pss_cons (ps_for PassesOwn.never rfl (pi_range1 (by rfl) t.n_range (pa_cons (pe_op op_add (pv 3) pe_int) pa_nil)) (pg_name (i := 5) sc_by_strides.nd rfl (by first | exact Or.inl rfl | exact Or.inr rfl)) (pss_cons (ps_set (i := 6) sc_by_strides.nd rfl (by first | exact Or.inl rfl | exact Or.inr rfl) (pe_ix ix_list (pe_ix ix_list (pv 0) (pe_fld (pv 4) rfl) (fun _ _ => rfl)) (pe_fld (pv 4) rfl) (fun _ _ => rfl)))
      (pss_cons (ps_if (pt_cmpR (op_eqD hr.units) (pv 6) (pe_tup pa_nil) (nomark _)) (pss_one (ps_ret (pe_tup (pa_cons pe_str (pa_cons (pe_fld (pv 4) rfl) (pa_cons (pe_fld (pv 4) rfl) (pa_cons (pe_meth0 (pv 4) t.cl_Strip t.M_Strip_told (ok_Strip_told t) (hr.mono (by decide)) t.b_Strip_told .nil pass0) pa_nil))))))) pss_nil)
      (pss_cons (ps_asg (pv 6) (pg_tup rfl (pgs_cons (pg_name (i := 7) sc_by_strides.nd rfl (by first | exact Or.inl rfl | exact Or.inr rfl)) (pgs_cons (pg_name (i := 8) sc_by_strides.nd rfl (by first | exact Or.inl rfl | exact Or.inr rfl)) (pgs_cons (pg_name (i := 9) sc_by_strides.nd rfl (by first | exact Or.inl rfl | exact Or.inr rfl)) pgs_nil)))))
      (pss_cons (ps_if (PW.pt (pw_and (pt_cmpR op_eq (pv 9) (pe_fld (pv 4) rfl) (nomark _)) (pw_and (pt_cmpR op_eq (pe_fld (pv 4) rfl) pe_int (nomark _)) (pw_and1 (pt_cmpR (op_eqD hr.units) (pe_dget (hu_of hr) (pe_fld (pv 4) rfl) (pv 8) (fun _ _ => rfl)) (pe_lst pa_nil) (nomark _)))))) (pss_one (ps_ret (pe_tup (pa_cons pe_str (pa_cons (pe_fld (pv 4) rfl) (pa_cons (pe_fld (pv 4) rfl) (pa_cons (pe_meth0 (pv 4) t.cl_Strip t.M_Strip_told (ok_Strip_told t) (hr.mono (by decide)) t.b_Strip_told .nil pass0) pa_nil))))))) pss_nil)
      (pss_one (ps_if (PW.pt (pw_and (pt_cmpR op_lt (pv 5) (pv 3) (nomark _)) (pw_and1 (pt_cmpR op_eq (pv 9) (pe_fld (pv 4) rfl) (nomark _))))) (pss_one (ps_expr (pe_meth (pv 4) t.cl_Strip t.M_Strip_stride (ok_Strip_stride t) (hr.mono (by decide)) t.b_Strip_stride .nil pass0 (pa_cons (pv 7) (pa_cons (pv 8) pa_nil))))) (pss_one (ps_if (pt_cmpR op_lt (pv 5) (pv 3) (nomark _)) (pss_one (ps_expr (pe_meth (pv 4) t.cl_Strip t.M_Strip_step (ok_Strip_step t) (hr.mono (by decide)) t.b_Strip_step .nil pass0 (pa_cons (pv 7) (pa_cons (pv 8) (pa_cons (pv 9) pa_nil)))))) pss_nil)))))))))
      (pss_one (ps_ret (pe_tup (pa_cons pe_str (pa_cons (pe_fld (pv 4) rfl) (pa_cons (pe_fld (pv 4) rfl) (pa_cons (pe_meth0 (pv 4) t.cl_Strip t.M_Strip_told (ok_Strip_told t) (hr.mono (by decide)) t.b_Strip_told .nil pass0) pa_nil)))))))))), ?_⟩
    have S1 : 1 ≤ S := by have := hM.s2; omega
    refine ⟨_, rfl, F, m, M, R, S, rfl, sF, hm, hM, fun H1 g1 => ?_⟩
    refine ⟨_, rfl, _, rfl, fun o do' no ndo neo => ?_⟩
    have g2 := g1.own (o := .own o) ndo
    have no2 : (upd H1 do' (.own o)) o = none := by rw [upd_ne neo.symm]; exact no
    have g3 := g2.own (o := .ins t.C_Strip do' []) no2
    have hno : H o = none := g1.th _ no
    refine ⟨F, o, do', v, x, row, rfl, upd_same, g1.fh.free no, g3.fh, hv, fun F4 H4 d a b g4 nd na nb st => ⟨rfl, ?_⟩⟩
    have g5 := g3.thn g4 fun c z => .inr (by rw [show c = o from z]; exact hno)
    have hna : H a = none := g3.th _ na
    have hnb : H b = none := g3.th _ nb
    have muN : ∀ c, muS o a b c → (mu0 c ∨ H c = none) := fun c z => .inr (by
      rcases z with rfl | rfl | rfl
      · exact hno
      · exact hna
      · exact hnb)
    have hm4 := hm.up g5.ff
    clear g1 g2 g3 g4 no2
    -- what is told at an end
    have fin : ∀ {F1 G : Hp} {k : Sk} {F5 H5 : Hp} {u l1 l2 : Addr} {xs1 xs2 : List V} {w : TStr}, Gr mu0 F H F1 G → strd M (n + 1) (k0Of x row) = (w, k) → Gr mu0 F1 G F5 H5 → F5 u = some (.tup [.ref l1, .int k.s, .ref l2]) → Ow G F5 H5 l1 (.lst xs1) → Ow G F5 H5 l2 (.lst xs2) → l1 ≠ l2 → IsAll F5 xs1 k.l.reverse → IsAll F5 xs2 k.r →
        ∀ t, H5 t = none → Q (.ref t) (upd H5 t (.tup [.str w.x, .int k.st, .int k.row, .ref u])) := by
      intro F1 G k F5 H5 u l1 l2 xs1 xs2 w g es g5 hu w1 w2 l12 i1 i2 t nt
      have g6 := g.trans g5
      have w1' : Ow H F5 H5 l1 (.lst xs1) := ⟨g.th _ w1.n, w1.f, w1.h⟩
      have w2' : Ow H F5 H5 l2 (.lst xs2) := ⟨g.th _ w2.n, w2.f, w2.h⟩
      have s6 : Same F5 (upd F5 t (.tup [.str w.x, .int k.st, .int k.row, .ref u])) := sm_new (Same.refl F5) (g6.fh.free nt)
      exact q _ _ t u l1 l2 xs1 xs2 (w, k) es (g6.new nt) upd_same (s6 _ _ hu) (w1'.new nt) (w2'.new nt) l12 (IsAll.up i1 s6) (IsAll.up i2 s6)
    refine ⟨_, rfl, _, _, rfl, rfl, (n : Int) + 1, rfl, by omega, by omega, for_range (lo := 0) (n := ((n : Int) + 1).toNat) (fun i σ G => ∃ (F1 : Hp) (k : Sk) (u0 u1 u2 u3 u4 : Option V), σ = [some m, some (.int row), some v, some (.int n), some (.ref o), u0, u1, u2, u3, u4] ∧
      Gr mu0 F H F1 G ∧ Is F1 m M ∧ StAt t.C_Strip F1 G o d a b k ∧ OkK R S k ∧ LenK k (900 + i) ∧ i ≤ n + 1 ∧ strd M (n + 1) (k0Of x row) = strd M (n + 1 - i) k)
      ⟨F4, k0Of x row, none, none, none, none, none, rfl, g5, hm4, st, ⟨hx.1.1.rev, hx.2.2.1, hx.2.1.1, hx.2.1.2, r0, r1⟩, ⟨by show x.a.reverse.length ≤ _; rw [List.length_reverse]; exact hx.1.2, hx.2.2.2⟩, by omega, rfl⟩ ?_ ?_⟩
    · rintro i σ G hi ⟨F1, k, u0, u1, u2, u3, u4, rfl, g, hmF, st, ok, lk, hin, es⟩
      have i1 : i ≤ n := by omega
      obtain ⟨rw', hrw, he, eo⟩ := ent_of hM ok.r0 ok.r1 ok.s0 ok.s1
      obtain ⟨am, rs, rfl, ha, hrs⟩ := id hmF
      obtain ⟨y, hy, bm, es', rfl, hb, hes⟩ := hrs.get hrw
      obtain ⟨z, hz, hze⟩ := hes.get he
      obtain ⟨dx, ho⟩ := st.ob
      refine ⟨_, rfl, _, rfl, o, t.C_Strip, dx, _, _, rfl, ho, t.cl_Strip, t.nA_Strip_row, Strip_get_row, am, rs, _, _, rfl, rfl, SqL.of (g.fh _ _ ha), at_of (Int.toNat_of_nonneg ok.r0).symm hy, _, rfl, o, t.C_Strip, dx, _, _, rfl, ho, t.cl_Strip, t.nA_Strip_sign, Strip_get_sign, bm, es', _, _, rfl, rfl, SqL.of (g.fh _ _ hb), at_of (Int.toNat_of_nonneg ok.s0).symm hz, ?_⟩
      have en : n + 1 - i = (n - i) + 1 := by omega
      rw [en] at es
      have es2 : strd M (n + 1) (k0Of x row) = match entAt M k.row k.s with
        | .emp => (tEnd, k)
        | .go p w t => if nevr k (decide (w = 1)) t = true then (tNev, k) else strd M (n - i) (if n - i = 0 then k else stepS k (decide (w = 1)) p t) := es
      refine ⟨_, rfl, nil_le, fun e1 ne1 => ?_⟩
      have gg := g.own (o := .tup []) ne1
      have k1 := (Gr.refl (mu := mu0) g.fh).own (o := .tup []) ne1
      have s1 := st.gr k1 (fun c z => z.elim)
      refine eq_dat (a := entAt M k.row k.s) (b := Ent.emp) (hze.up gg.fh) ⟨e1, rfl, upd_same⟩ ⟨_, rfl, ?_⟩
      generalize upd G e1 (.tup []) = G1 at gg s1 ⊢
      obtain ⟨dx, ho⟩ := s1.ob
      cases ee : entAt M k.row k.s with
      | emp =>
        rw [ee] at es2
        have es2 : strd M (n + 1) (k0Of x row) = (tEnd, k) := es2
        refine ifT (decide_eq_true rfl) ⟨_, rfl, o, t.C_Strip, dx, _, _, rfl, ho, t.cl_Strip, t.nA_Strip_steps, Strip_get_steps, _, rfl, o, t.C_Strip, dx, _, _, rfl, ho, t.cl_Strip, t.nA_Strip_row, Strip_get_row, _, rfl, o, dx, _, rfl, ho, Strip_no (by decide +kernel) (by decide +kernel) (by decide +kernel) (by decide +kernel), F1, o, d, a, b, k, rfl, gg.fh, s1, fun F5 H5 u l1 l2 xs1 xs2 g5 hu w1 w2 l12 i1 i2 => ⟨by show 4 ≤ sizeLine; decide, fun t nt => ?_⟩⟩
        exact fin gg es2 g5 hu w1 w2 l12 i1 i2 t nt
      | go pu wa to =>
        rw [ee] at es2 hze eo
        obtain ⟨⟨p0, p1⟩, wo, t0, t1⟩ := eo.ok _ _ _ rfl
        obtain ⟨ae, rfl, hae⟩ := hze
        refine ifF (decide_eq_false (by intro z; cases z)) ?_
        refine ⟨_, rfl, ae, _, rfl, SqT.of (gg.fh _ _ hae), rfl, _, _, rfl, _, _, rfl, _, _, rfl, rfl, ?_⟩
        have es2 : strd M (n + 1) (k0Of x row) = if nevr k (decide (wa = 1)) to = true then (tNev, k) else strd M (n - i) (if n - i = 0 then k else stepS k (decide (wa = 1)) pu to) := es2
        refine ⟨_, rfl, _, rfl, o, t.C_Strip, dx, _, _, rfl, ho, t.cl_Strip, t.nA_Strip_row, Strip_get_row, rfl, _, rfl, ?_⟩
        rw [int_eq]
        refine ite2 (fun c1 => ?N) (fun c1 => ?A)
        case' N =>
          refine ⟨_, rfl, o, t.C_Strip, dx, _, _, rfl, ho, t.cl_Strip, t.nA_Strip_sign, Strip_get_sign, rfl, _, rfl, ?_⟩
          rw [int_eq]
          refine ite2 (fun c2 => ?N2) (fun c2 => ?B)
        case' N2 =>
          refine ⟨_, rfl, o, t.C_Strip, dx, _, _, rfl, ho, t.cl_Strip, t.nA_Strip_sides, Strip_get_sides, _, rfl, d, _, rfl, sd_dg (gg.fh _ _ s1.dd) wo, nil_le, fun e2 ne2 => ?_⟩
          have gA := gg.own (o := .lst []) ne2
          have k2 := (Gr.refl (mu := mu0) gg.fh).own (o := .lst []) ne2
          have sA := s1.gr k2 (fun c z => z.elim)
          refine eq_dat (a := (k.ah (decide (wa = 1))).reverse) (b := ([] : List PI)) ((sA.sides _).1.is gA.fh) (is_nil upd_same) ⟨_, rfl, ?_⟩
          rw [rev_nil_iff]
          generalize upd G1 e2 (.lst []) = G2 at gA sA ⊢
          refine ite2 (fun c3 => ?N3) (fun c3 => ?C)
        case N3 =>
          have nv : nevr k (decide (wa = 1)) to = true := by
            unfold nevr
            rw [c1, c2, c3]; rfl
          rw [if_pos nv] at es2
          obtain ⟨dx, ho⟩ := sA.ob
          refine ⟨_, rfl, o, t.C_Strip, dx, _, _, rfl, ho, t.cl_Strip, t.nA_Strip_steps, Strip_get_steps, _, rfl, o, t.C_Strip, dx, _, _, rfl, ho, t.cl_Strip, t.nA_Strip_row, Strip_get_row, _, rfl, o, dx, _, rfl, ho, Strip_no (by decide +kernel) (by decide +kernel) (by decide +kernel) (by decide +kernel), F1, o, d, a, b, k, rfl, gA.fh, sA, fun F5 H5 u l1 l2 xs1 xs2 g5 hu w1 w2 l12 i1 i2 => ⟨by show 4 ≤ sizeLine; decide, fun t nt => ?_⟩⟩
          exact fin gA es2 g5 hu w1 w2 l12 i1 i2 t nt
        case' A =>
          refine ifF rfl ?_
          have gA := gg
          have sA := s1
          have nv : nevr k (decide (wa = 1)) to = false := by
            unfold nevr
            rw [Bool.eq_false_iff.mpr c1]; rfl
        case' B =>
          refine ifF rfl ?_
          have gA := gg
          have sA := s1
          have nv : nevr k (decide (wa = 1)) to = false := by
            unfold nevr
            rw [c1, Bool.eq_false_iff.mpr c2]; rfl
        case' C =>
          have nv : nevr k (decide (wa = 1)) to = false := by
            unfold nevr
            rw [c1, c2, Bool.eq_false_iff.mpr c3]; rfl
        all_goals
          rw [if_neg (by rw [nv]; exact Bool.false_ne_true)] at es2
          obtain ⟨dx, ho⟩ := sA.ob
          refine ⟨_, rfl, _, rfl, _, _, rfl, rfl, _, rfl, ?_⟩
          refine ite2 (fun c4 => ?_) (fun c4 => ?_)
          · have i2 : i < n := by
              have c4 := of_decide_eq_true c4
              omega
            have c4n : ((0 + (i : Int)) < n) := of_decide_eq_true c4
            rw [if_neg (by omega)] at es2
            have ok2 := ok.step (decide (wa = 1)) S1 p0 p1 t0 t1
            have lk2 := lk.step (decide (wa = 1)) (p := pu) (t := to)
            have lk3 : LenK k 1500 := ⟨by have := lk.1; omega, by have := lk.2; omega⟩
            refine ⟨_, rfl, _, rfl, o, t.C_Strip, dx, _, _, rfl, ho, t.cl_Strip, t.nA_Strip_row, Strip_get_row, rfl, _, rfl, ?_⟩
            rw [int_eq]
            refine ite2 (fun c5 => ?_) (fun c5 => ?_)
            · have c5 := of_decide_eq_true c5
              subst c5
              refine ⟨_, rfl, o, dx, _, rfl, ho, Strip_no (by decide +kernel) (by decide +kernel) (by decide +kernel) (by decide +kernel), _, rfl, _, rfl, F1, o, d, a, b, k, pu, wa, R, S, rfl, gA.fh, sA, wo, ok, lk3, fun F5 H5 g5 st5 => ?_⟩
              refine ⟨F5, _, _, _, _, _, _, rfl, gA.thn g5 muN, hmF.up g5.ff, st5, ok2, by rw [show 900 + (i + 1) = 900 + i + 1 by omega]; exact lk2, by omega, ?_⟩
              rw [es2, show n + 1 - (i + 1) = n - i by omega]
            · have c5 : ¬ to = k.row := fun z => c5 (decide_eq_true z)
              refine ⟨_, rfl, _, rfl, _, _, rfl, rfl, _, rfl, ifT c4 ?_⟩
              refine ⟨_, rfl, o, dx, _, rfl, ho, Strip_no (by decide +kernel) (by decide +kernel) (by decide +kernel) (by decide +kernel), _, rfl, _, rfl, _, rfl, F1, o, d, a, b, k, pu, wa, to, R, S, rfl, gA.fh, sA, wo, c5, ok, lk3, fun F5 H5 g5 st5 => ?_⟩
              refine ⟨F5, _, _, _, _, _, _, rfl, gA.thn g5 muN, hmF.up g5.ff, st5, ok2, by rw [show 900 + (i + 1) = 900 + i + 1 by omega]; exact lk2, by omega, ?_⟩
              rw [es2, show n + 1 - (i + 1) = n - i by omega]
          · have c4' : ¬ ((0 + (i : Int)) < n) := fun z => c4 (decide_eq_true z)
            have en0 : n - i = 0 := by omega
            rw [if_pos en0] at es2
            refine ifF rfl ⟨_, rfl, _, rfl, _, _, rfl, rfl, _, rfl, ifF (Bool.eq_false_iff.mpr c4) ?_⟩
            refine ⟨F1, k, _, _, _, _, _, rfl, gA, hmF, sA, ok, ⟨by have := lk.1; omega, by have := lk.2; omega⟩, by omega, ?_⟩
            rw [es2, show n + 1 - (i + 1) = n - i by omega]
    · rintro σ G ⟨F1, k, u0, u1, u2, u3, u4, rfl, g, hmF, st, ok, lk, hin, es⟩
      have es : strd M (n + 1) (k0Of x row) = (tOnn, k) := by
        rw [es, show n + 1 - ((n : Int) + 1).toNat = 0 by omega]; rfl
      obtain ⟨dx, ho⟩ := st.ob
      refine ⟨_, rfl, o, t.C_Strip, dx, _, _, rfl, ho, t.cl_Strip, t.nA_Strip_steps, Strip_get_steps, _, rfl, o, t.C_Strip, dx, _, _, rfl, ho, t.cl_Strip, t.nA_Strip_row, Strip_get_row, _, rfl, o, dx, _, rfl, ho, Strip_no (by decide +kernel) (by decide +kernel) (by decide +kernel) (by decide +kernel), F1, o, d, a, b, k, rfl, g.fh, st, fun F5 H5 u l1 l2 xs1 xs2 g5 hu w1 w2 l12 i1 i2 => ⟨by show 4 ≤ sizeLine; decide, fun t nt => ?_⟩⟩
      exact fin g es g5 hu w1 w2 l12 i1 i2 t nt
/-! ### what is no machine, at each door (printed by k77.py) -/
def sp_doorN3 (C : Addr) : Sp := fun vs H Q E => ∃ (F : Hp) (v c0 c1 : V) (M : GM), vs = [v, c0, c1] ∧ Same F H ∧ Is F v M ∧ isM M = false ∧ ∀ H', Gr mu0 F H F H' → E (.ref C) none H'
def sp_doorN4 (C : Addr) : Sp := fun vs H Q E => ∃ (F : Hp) (v c0 c1 c2 : V) (M : GM), vs = [v, c0, c1, c2] ∧ Same F H ∧ Is F v M ∧ isM M = false ∧ ∀ H', Gr mu0 F H F H' → E (.ref C) none H'
theorem okn_through (t : Tx K mg) : FnOk P w K mg base (L2.CX P w) 4 t.a_through t.fd_through ["machine", "block", "row", "side"] (sp_doorN4 t.C_NoMachine) := by
  refine t.F_through.okX sc_through (fun vs H Q E h => ?_) (fun cdv A outer s H vs Q E hr h => ?_)
  · obtain ⟨F, v, c0, c1, c2, M, rfl, _⟩ := h
    rfl
  · obtain ⟨F, v, c0, c1, c2, M, rfl, sF, hv, hM, q⟩ := h
    refine ⟨_, (pss_cons (ps_expr (pe_callS (okx_must_machine t) (hr.mono (by decide)) (by rfl) t.m_must_machine t.F_must_machine.kp t.b_must_machine (fun σ => passAt (takes_of rfl rfl rfl rfl) σ) (pa_cons (pv 0) pa_nil)))
      (pss_cons ps_never (pss_cons ps_never (pss_cons ps_never (pss_cons ps_never (pss_one ps_never)))))), ?_⟩
    exact ⟨_, rfl, F, v, M, rfl, sF, hv, (fun e => by rw [hM] at e; cases e), fun _ H' g => q H' g⟩
theorem okx_through (t : Tx K mg) : FnOk P w K mg base (L2.CX P w) 4 t.a_through t.fd_through ["machine", "block", "row", "side"] (fun vs H Q E => sp_through vs H Q E ∨ sp_doorN4 t.C_NoMachine vs H Q E) := FnOk.or (FnOk.lift (ok_through t)) (okn_through t)
theorem okn_by_blocks (t : Tx K mg) : FnOk P w K mg base (L2.CX P w) 5 t.a_by_blocks t.fd_by_blocks ["machine", "k", "many"] (sp_doorN3 t.C_NoMachine) := by
  refine t.F_by_blocks.okX sc_by_blocks (fun vs H Q E h => ?_) (fun cdv A outer s H vs Q E hr h => ?_)
  · obtain ⟨F, v, c0, c1, M, rfl, _⟩ := h
    rfl
  · obtain ⟨F, v, c0, c1, M, rfl, sF, hv, hM, q⟩ := h
    refine ⟨_, (pss_cons (ps_expr (pe_callS (okx_must_machine t) (hr.mono (by decide)) (by rfl) t.m_must_machine t.F_must_machine.kp t.b_must_machine (fun σ => passAt (takes_of rfl rfl rfl rfl) σ) (pa_cons (pv 0) pa_nil)))
      (pss_cons ps_never (pss_cons ps_never (pss_one ps_never)))), ?_⟩
    exact ⟨_, rfl, F, v, M, rfl, sF, hv, (fun e => by rw [hM] at e; cases e), fun _ H' g => q H' g⟩
theorem okx_by_blocks (t : Tx K mg) : FnOk P w K mg base (L2.CX P w) 5 t.a_by_blocks t.fd_by_blocks ["machine", "k", "many"] (fun vs H Q E => sp_by_blocks vs H Q E ∨ sp_doorN3 t.C_NoMachine vs H Q E) := FnOk.or (FnOk.lift (ok_by_blocks t)) (okn_by_blocks t)
theorem okn_by_strides (t : Tx K mg) : FnOk P w K mg base (L2.CX P w) 4 t.a_by_strides t.fd_by_strides ["machine", "row", "runs", "many"] (sp_doorN4 t.C_NoMachine) := by
  refine t.F_by_strides.okX sc_by_strides (fun vs H Q E h => ?_) (fun cdv A outer s H vs Q E hr h => ?_)
  · obtain ⟨F, v, c0, c1, c2, M, rfl, _⟩ := h
    rfl
  · obtain ⟨F, v, c0, c1, c2, M, rfl, sF, hv, hM, q⟩ := h
    refine ⟨_, (pss_cons (ps_expr (pe_callS (okx_must_machine t) (hr.mono (by decide)) (by rfl) t.m_must_machine t.F_must_machine.kp t.b_must_machine (fun σ => passAt (takes_of rfl rfl rfl rfl) σ) (pa_cons (pv 0) pa_nil)))
      (pss_cons ps_never (pss_cons ps_never (pss_one ps_never)))), ?_⟩
    exact ⟨_, rfl, F, v, M, rfl, sF, hv, (fun e => by rw [hM] at e; cases e), fun _ H' g => q H' g⟩
theorem okx_by_strides (t : Tx K mg) : FnOk P w K mg base (L2.CX P w) 4 t.a_by_strides t.fd_by_strides ["machine", "row", "runs", "many"] (fun vs H Q E => sp_by_strides vs H Q E ∨ sp_doorN4 t.C_NoMachine vs H Q E) := FnOk.or (FnOk.lift (ok_by_strides t)) (okn_by_strides t)
/-! ### lists of lists of data that may be changed yet -/
section
variable {α : Type} [Dat α]
structure MaG (H F1 H1 : Hp) (m : Addr) (rs : List Addr) (ess : List (List V)) (M : List (List α)) : Prop where
  ow : Ow H F1 H1 m (.lst (rs.map V.ref))
  nd : rs.Nodup
  ne : m ∉ rs
  len : rs.length = ess.length
  rows : ∀ (i : Nat) r es, rs[i]? = some r → ess[i]? = some es → Ow H F1 H1 r (.lst es)
  dat : All2 (fun es row => IsAll F1 es row) ess M
section
variable {mu mu' : Addr → Prop} {H F F1 H1 F2 H2 : Hp} {m : Addr} {rs : List Addr} {ess : List (List V)} {M : List (List α)}
theorem MaG.row (x : MaG H F1 H1 m rs ess M) {r : Addr} (h : r ∈ rs) : ∃ es, Ow H F1 H1 r (.lst es) := by
  obtain ⟨i, hi⟩ := List.getElem?_of_mem h
  have l := (List.getElem?_eq_some_iff.mp hi).1
  exact ⟨ess[i]'(by rw [← x.len]; exact l), x.rows i r _ hi (List.getElem?_eq_getElem _)⟩
theorem MaG.gr (x : MaG H F1 H1 m rs ess M) (g : Gr mu F1 H1 F2 H2) (k : ∀ c, mu c → c ≠ m ∧ c ∉ rs) : MaG H F2 H2 m rs ess M where
  ow := x.ow.call g fun z => (k m z).1 rfl
  nd := x.nd
  ne := x.ne
  len := x.len
  rows := fun i r es h1 h2 => (x.rows i r es h1 h2).call g fun z => (k r z).2 (List.mem_of_getElem? h1)
  dat := x.dat.imp fun es row z => z.up g.ff
theorem MaG.off (x : MaG H F1 H1 m rs ess M) {p : Addr} {o : HO} (h : H p = some o) : ∀ c, muP p c → c ≠ m ∧ c ∉ rs := fun c e => by
  rw [show c = p from e]
  refine ⟨fun z => ?_, fun z => ?_⟩
  · rw [z, x.ow.n] at h; cases h
  · obtain ⟨es, w⟩ := x.row z
    rw [w.n] at h; cases h
theorem MaG.offn (x : MaG H F1 H1 m rs ess M) {p : Addr} (h : H1 p = none) : p ≠ m ∧ p ∉ rs := by
  refine ⟨fun z => ?_, fun z => ?_⟩
  · rw [z, x.ow.h] at h; cases h
  · obtain ⟨es, w⟩ := x.row z
    rw [w.h] at h; cases h
/-- a row that is done comes in -/
theorem MaG.add (x : MaG H F1 H1 m rs ess M) {r : Addr} {es : List V} {row : List α} (w : Ow H F1 H1 r (.lst es)) (k : r ≠ m ∧ r ∉ rs) (d : IsAll F1 es row) : MaG H F1 (upd H1 m (.lst ((rs ++ [r]).map V.ref))) m (rs ++ [r]) (ess ++ [es]) (M ++ [row]) where
  ow := x.ow.set
  nd := nd_snoc x.nd k.2
  ne := fun z => by
    rcases List.mem_append.mp z with z | z
    · exact x.ne z
    · exact k.1 (List.mem_singleton.mp z).symm
  len := by rw [List.length_append, List.length_append, x.len]; rfl
  rows := fun i r' es' h1 h2 => by
    by_cases l : i < rs.length
    · rw [List.getElem?_append_left l] at h1
      rw [List.getElem?_append_left (by rw [← x.len]; exact l)] at h2
      exact (x.rows i r' es' h1 h2).other fun z => x.ne (by rw [← z]; exact List.mem_of_getElem? h1)
    · rw [List.getElem?_append_right (by omega)] at h1
      rw [List.getElem?_append_right (by rw [← x.len]; omega), ← x.len] at h2
      cases e : i - rs.length with
      | zero =>
        rw [e] at h1 h2
        cases h1; cases h2
        exact w.other k.1
      | succ n => rw [e] at h1; cases h1
  dat := x.dat.app (All2.one d)
/-- an entry of it is changed -/
theorem MaG.put (x : MaG H F1 H1 m rs ess M) {i j : Nat} {r : Addr} {es : List V} {row : List α} {v : V} {e : α} (hr : rs[i]? = some r) (hes : ess[i]? = some es) (hrow : M[i]? = some row) (hv : Is F1 v e) :
    MaG H F1 (upd H1 r (.lst (es.set j v))) m rs (ess.set i (es.set j v)) (M.set i (row.set j e)) where
  ow := x.ow.other fun z => x.ne (by rw [z]; exact List.mem_of_getElem? hr)
  nd := x.nd
  ne := x.ne
  len := by rw [List.length_set]; exact x.len
  rows := fun i' r' es' h1 h2 => by
    by_cases e : i = i'
    · subst e
      rw [hr] at h1
      cases h1
      rw [List.getElem?_set_self (List.getElem?_eq_some_iff.mp hes).1] at h2
      cases h2
      exact (x.rows i r es hr hes).set
    · rw [List.getElem?_set_ne e] at h2
      exact (x.rows i' r' es' h1 h2).other fun z => e (nd_ix x.nd hr (by rw [← z]; exact h1))
  dat := x.dat.set ((x.dat.2 i es row hes hrow).set hv j) i
/-- it is changed no more -/
theorem MaG.frz (x : MaG H F1 H1 m rs ess M) (g : Gr mu F H F1 H1) : ∃ F2, Gr mu F H F2 H1 ∧ Same F1 F2 ∧ Is F2 (.ref m) M ∧ (∀ c, c ≠ m → c ∉ rs → F2 c = F1 c) ∧ ∀ c, c = m ∨ c ∈ rs → F2 c = H1 c := by
  have own : ∀ c, (c = m ∨ c ∈ rs) → H c = none ∧ F1 c = none ∧ ∃ o, H1 c = some o := fun c h => by
    rcases h with rfl | h
    · exact ⟨x.ow.n, x.ow.f, _, x.ow.h⟩
    · obtain ⟨es, w⟩ := x.row h
      exact ⟨w.n, w.f, _, w.h⟩
  have s : Same F1 (fun c => if c = m ∨ c ∈ rs then H1 c else F1 c) := fun c o h => by
    by_cases e : c = m ∨ c ∈ rs
    · rw [(own c e).2.1] at h; cases h
    · simp only [e, if_false]; exact h
  refine ⟨fun c => if c = m ∨ c ∈ rs then H1 c else F1 c, ⟨fun c o h => s c o (g.ff c o h), fun c o h => ?_, fun c o h => ?_, g.fr, g.th⟩, s, ⟨m, rs.map V.ref, rfl, ?_, by rw [List.length_map, x.len]; exact x.dat.1, fun i v row h1 h2 => ?_⟩, fun c h1 h2 => if_neg fun z => z.elim h1 h2, fun c h => if_pos h⟩
  · by_cases e : c = m ∨ c ∈ rs
    · simp only [e, if_true] at h; exact h
    · simp only [e, if_false] at h; exact g.fh c o h
  · by_cases e : c = m ∨ c ∈ rs
    · exact .inr (own c e).1
    · simp only [e, if_false] at h; exact g.nw c o h
  · show (if m = m ∨ m ∈ rs then H1 m else F1 m) = _
    rw [if_pos (.inl rfl)]; exact x.ow.h
  · rw [List.getElem?_map] at h1
    cases hr : rs[i]? with
    | none => rw [hr] at h1; cases h1
    | some r =>
      rw [hr] at h1
      cases h1
      obtain ⟨es, hes, hd⟩ := x.dat.get h2
      refine ⟨r, es, rfl, ?_, hd.up s⟩
      show (if r = m ∨ r ∈ rs then H1 r else F1 r) = _
      rw [if_pos (.inr (List.mem_of_getElem? hr))]
      exact (x.rows i r es hr hes).h
/-- it may be changed again -/
theorem MaG.thaw {F0 F3 G : Hp} (s0 : Same F0 H) (x : MaG H F1 H1 m rs ess M) (s : Same F1 F2) (on : ∀ c, c = m ∨ c ∈ rs → F2 c = H1 c) (s' : Same F2 F3) (g : Gr mu F0 H F3 G) : ∃ F', Gr mu F0 H F' G ∧ Same F1 F' ∧ MaG H F' G m rs ess M := by
  have own : ∀ c, (c = m ∨ c ∈ rs) → H c = none ∧ F1 c = none ∧ ∀ o, H1 c = some o → G c = some o := fun c h => by
    have k : ∀ o, H1 c = some o → G c = some o := fun o e => g.fh _ _ (s' _ _ ((on c h).trans e))
    rcases id h with rfl | h
    · exact ⟨x.ow.n, x.ow.f, k⟩
    · obtain ⟨es, w⟩ := x.row h
      exact ⟨w.n, w.f, k⟩
  have sa : Same F1 (fun c => if c = m ∨ c ∈ rs then none else F3 c) := fun c o h => by
    by_cases e : c = m ∨ c ∈ rs
    · rw [(own c e).2.1] at h; cases h
    · simp only [e, if_false]; exact s' _ _ (s _ _ h)
  have sb : Same (fun c => if c = m ∨ c ∈ rs then none else F3 c) F3 := fun c o h => by
    by_cases e : c = m ∨ c ∈ rs
    · simp only [e, if_true] at h; cases h
    · simp only [e, if_false] at h; exact h
  have no : ∀ c, (c = m ∨ c ∈ rs) → (fun c => if c = m ∨ c ∈ rs then none else F3 c) c = none := fun c e => if_pos e
  refine ⟨fun c => if c = m ∨ c ∈ rs then none else F3 c, ⟨fun c o h => ?_, fun c o h => g.fh _ _ (sb _ _ h), fun c o h => g.nw _ _ (sb _ _ h), g.fr, g.th⟩, sa, ⟨⟨x.ow.n, no _ (.inl rfl), (own _ (.inl rfl)).2.2 _ x.ow.h⟩, x.nd, x.ne, x.len, fun i r es h1 h2 => ?_, x.dat.imp fun es row z => z.up sa⟩⟩
  · by_cases e : c = m ∨ c ∈ rs
    · have z := s0 c o h
      rw [(own c e).1] at z; cases z
    · simp only [e, if_false]; exact g.ff c o h
  · have w := x.rows i r es h1 h2
    have m' : r = m ∨ r ∈ rs := .inr (List.mem_of_getElem? h1)
    exact ⟨w.n, no _ m', (own _ m').2.2 _ w.h⟩
theorem MaG.at (x : MaG H F1 H1 m rs ess M) {i : Nat} {row : List α} (h : M[i]? = some row) : ∃ r es, rs[i]? = some r ∧ ess[i]? = some es ∧ Ow H F1 H1 r (.lst es) ∧ IsAll F1 es row := by
  obtain ⟨es, hes, al⟩ := x.dat.get h
  have l : i < rs.length := by rw [x.len]; exact (List.getElem?_eq_some_iff.mp hes).1
  exact ⟨_, es, List.getElem?_eq_getElem l, hes, x.rows i _ es (List.getElem?_eq_getElem l) hes, al⟩
end
end
/-! ### machines bent -/
section
variable {α : Type} [Dat α] {mu : Addr → Prop} {H F1 H1 : Hp} {m : Addr} {rs : List Addr} {ess : List (List V)} {M : List (List α)}
theorem MaG.rep (x : MaG H F1 H1 m rs ess M) {i : Nat} {r : Addr} {es es' : List V} {row' : List α} (hr : rs[i]? = some r) (hes : ess[i]? = some es) (hv : IsAll F1 es' row') :
    MaG H F1 (upd H1 r (.lst es')) m rs (ess.set i es') (M.set i row') where
  ow := x.ow.other fun z => x.ne (by rw [z]; exact List.mem_of_getElem? hr)
  nd := x.nd
  ne := x.ne
  len := by rw [List.length_set]; exact x.len
  rows := fun j r' es2 h1 h2 => by
    by_cases e : i = j
    · subst e
      cases hr.symm.trans h1
      rw [List.getElem?_set_self (List.getElem?_eq_some_iff.mp hes).1] at h2
      cases h2
      exact (x.rows i r es hr hes).set
    · rw [List.getElem?_set_ne e] at h2
      exact (x.rows j r' es2 h1 h2).other fun z => e (nd_ix x.nd hr (by rw [← z]; exact h1))
  dat := x.dat.set hv i
theorem MaG.slot (x : MaG H F1 H1 m rs ess M) {i : Nat} (hi : i < M.length) : ∃ r es row, rs[i]? = some r ∧ ess[i]? = some es ∧ M[i]? = some row ∧ Ow H F1 H1 r (.lst es) ∧ IsAll F1 es row ∧ (rs.map V.ref)[i]? = some (.ref r) := by
  have h : M[i]? = some _ := List.getElem?_eq_getElem hi
  obtain ⟨r, es, h1, h2, w, al⟩ := x.at h
  exact ⟨r, es, _, h1, h2, h, w, al, by rw [List.getElem?_map, h1]; rfl⟩
end
/-! ### copies; what is bent is no machine -/
theorem eqT {a b : Int} {A B : Prop} (h : a = b) (x : A) : if decide (V.int a = V.int b) = true then A else B := by
  subst h; exact ifT (decide_eq_true rfl) x
theorem eqF {a b : Int} {A B : Prop} (h : ¬ a = b) (x : B) : if decide (V.int a = V.int b) = true then A else B := ifF (decide_eq_false fun z => h (V.int.inj z)) x
theorem cut_take {xs : List V} {j : Nat} : cutV xs none (some (j : Int)) = xs.take j := by
  unfold cutV
  have e1 : HT.sIx xs.length 0 none = 0 := rfl
  have e2 : HT.sIx xs.length xs.length (some (j : Int)) = min j xs.length := by
    simp only [HT.sIx]
    rw [if_neg (by omega), Int.toNat_natCast]
  rw [e1, e2, List.drop_zero, Nat.sub_zero]
  rcases Nat.le_total j xs.length with h | h
  · rw [Nat.min_eq_left h]
  · rw [Nat.min_eq_right h, List.take_length, List.take_of_length_le h]
theorem cut_drop {xs : List V} {j : Nat} : cutV xs (some (j : Int)) none = xs.drop j := by
  unfold cutV
  have e1 : HT.sIx xs.length 0 (some (j : Int)) = min j xs.length := by
    simp only [HT.sIx]
    rw [if_neg (by omega), Int.toNat_natCast]
  have e2 : HT.sIx xs.length xs.length none = xs.length := rfl
  rw [e1, e2]
  rcases Nat.le_total j xs.length with h | h
  · rw [Nat.min_eq_left h, ← List.length_drop, List.take_length]
  · rw [Nat.min_eq_right h, Nat.sub_self, List.take_zero, List.drop_eq_nil_of_le h]
theorem Gr.newE {mu : Addr → Prop} {F H F1 H1 : Hp} {q : Addr} {o : HO} (a : Gr mu F H F1 H1) (n : H1 q = none) : ∃ F', Gr mu F H F' (upd H1 q o) ∧ F' q = some o ∧ Same F1 F' ∧ Gr mu0 F1 H1 F' (upd H1 q o) := ⟨_, a.new n, upd_same, sm_new (Same.refl F1) (a.fh.free n), (Gr.refl (mu := mu0) a.fh).new n⟩
structure IsM (M : GM) (R S : Nat) : Prop where
  r1 : 1 ≤ R
  r4 : R ≤ 4
  s2 : 2 ≤ S
  s4 : S ≤ 4
  len : M.length = R
  row : ∀ r ∈ M, r.length = S
  ent : ∀ r ∈ M, ∀ e ∈ r, isE R S e.l = true
theorem isM_of {M : GM} (h : isM M = true) : ∃ R S, IsM M R S := by
  unfold isM at h
  simp only [Bool.and_eq_true, decide_eq_true_iff, List.all_eq_true] at h
  obtain ⟨⟨⟨⟨⟨h1, h2⟩, h3⟩, h4⟩, h5⟩, h6⟩ := h
  exact ⟨M.length, (M.headD []).length, h1, h2, h3, h4, rfl, h5, h6⟩
theorem noM {M : GM} (h : ∀ R S, ¬ IsM M R S) : isM M = false := by
  cases z : isM M with
  | false => rfl
  | true =>
    obtain ⟨R, S, k⟩ := isM_of z
    exact absurd k (h R S)
theorem noM_len {M : GM} (h : M.length < 1 ∨ 4 < M.length) : isM M = false := noM fun R S k => by
  have h1 := k.len; have h2 := k.r1; have h3 := k.r4; omega
theorem noM_row {M : GM} {r : List GE} (m : r ∈ M) (h : r.length < 2 ∨ 4 < r.length) : isM M = false := noM fun R S k => by
  have h1 := k.row r m; have h2 := k.s2; have h3 := k.s4; omega
theorem noM_two {M : GM} {r r' : List GE} (m : r ∈ M) (m' : r' ∈ M) (h : r.length ≠ r'.length) : isM M = false := noM fun R S k => h ((k.row r m).trans (k.row r' m').symm)
theorem bad_isM {M : GM} {R S i j : Nat} {row : List GE} {e : GE} (h : IsM M R S) (hr : M[i]? = some row) (hj : j < row.length) (he : isE R S e.l = false) : isM (M.set i (row.set j e)) = false := noM fun R' S' h' => by
  have il : i < M.length := (List.getElem?_eq_some_iff.mp hr).1
  have e1 : R' = R := by rw [← h'.len, List.length_set, h.len]
  have hm : row.set j e ∈ M.set i (row.set j e) := List.mem_iff_getElem?.mpr ⟨i, by rw [List.getElem?_set_self il]⟩
  have e2 : S' = S := by rw [← h'.row _ hm, List.length_set, h.row row (List.mem_of_getElem? hr)]
  have z2 := h'.ent _ hm e (List.mem_iff_getElem?.mpr ⟨j, by rw [List.getElem?_set_self hj]⟩)
  rw [e1, e2, he] at z2
  cases z2
def sp_keptG (α : Type) [Dat α] : Sp := fun vs H Q _ => ∃ (F : Hp) (v : V) (M : List (List α)), vs = [v] ∧ Same F H ∧ Is F v M ∧ M.length ≤ 20 ∧ ∀ (F' H' : Hp) (u : V), Gr mu0 F H F' H' → Is F' u M → Q u H'
theorem okG_L_kept {α : Type} [Dat α] (t : Tx K mg) : FnOk P w K mg base CX0 1 t.a_L_kept t.fd_L_kept ["_law_machine_here"] (sp_keptG α) := by
  refine t.F_L_kept.ok sc_L_kept (fun vs H Q E h => ?_) (fun cdv A outer s H vs Q E hr h => ?_)
  · obtain ⟨F, v, M, rfl, _⟩ := h
    rfl
  · obtain ⟨F, v, M, rfl, sF, hv, hl, q⟩ := h
    refine ⟨_, (pss_one (ps_ret (pe_lc (own := [("_law_row", 1)]) (g := gName 1) (tt := tYes) rfl sc_L_kept.nd (pi_list (pv 0)) (blkOk_by (N := N_L_kept) (sc := defScope s_L_kept) (by decide +kernel)) (fun _ _ _ _ _ => (pg_name (i := 1) sc_L_kept.nd rfl (by first | exact Or.inl rfl | exact Or.inr rfl))) (fun _ _ _ _ _ => pts_nil) (fun _ _ _ _ _ => (pe_callTy (T := "list") (crK (K := K) (r := rListQ) rfl call_listQ) (by rfl) t.n_list (by decide +kernel) (pa_cons (pv 1) pa_nil)))))), ?_⟩
    obtain ⟨m, rv, rfl, ham, hrs⟩ := hv
    have g0 : Gr mu0 F H F H := Gr.refl sF
    refine ⟨_, rfl, m, rfl, ⟨_, SqL.of (sF _ _ ham)⟩, fun D nD => lc_list (K := K) (a := m) (xs := rv) (fun i G => ∃ (F4 : Hp) (xs : List V), Gr mu0 F H F4 G ∧ Ow H F4 G D (.lst xs) ∧ IsAll F4 xs (M.take i))
      ⟨F, [], g0.own nD, Ow.mk1 g0 nD, All2.nil⟩ (fun i G _ ⟨F4, xs, g, _⟩ => SqL.of (g.fh _ _ (g.ff _ _ ham))) ?_ ?_⟩
    · rintro i y G hi ⟨F4, xs, g, w, al⟩
      obtain ⟨row, hMi, ra, es, rfl, hra, hes⟩ := hrs.get' hi
      have il : i < rv.length := (List.getElem?_eq_some_iff.mp hi).1
      have hl' := hrs.1
      have lx : xs.length = i := by rw [al.1, List.length_take, ← hrs.1]; omega
      refine ⟨rfl, yes ⟨_, rfl, ra, es, rfl, .inl (SqL.of (g.fh _ _ (g.ff _ _ hra))), fun l nl => ⟨xs, (w.new nl).h, lt_size (by omega), ?_⟩⟩⟩
      have g4 := g.new (o := .lst es) nl
      have w4 := w.new (u := .lst es) nl
      have s4 : Same F4 (upd F4 l (.lst es)) := sm_new (Same.refl F4) (g.fh.free nl)
      refine ⟨_, xs ++ [.ref l], g4.set w4.f (.inl w4.n), w4.set, ?_⟩
      rw [List.take_add_one, hMi]
      exact (al.up s4).app (All2.one ⟨l, es, rfl, upd_same, IsAll.up (IsAll.up hes g.ff) s4⟩)
    · rintro G ⟨F4, xs, g, w, al⟩
      rw [hrs.1, List.take_length] at al
      exact q (upd F4 D (.lst xs)) G _ (g.frz w.h w.n w.f) ⟨D, xs, rfl, upd_same, al.up (sm_new (Same.refl F4) w.f)⟩
theorem ok_L_kept (t : Tx K mg) : FnOk P w K mg base CX0 1 t.a_L_kept t.fd_L_kept ["_law_machine_here"] (fun vs H Q E => sp_keptG Ent vs H Q E ∨ sp_keptG GE vs H Q E) := FnOk.or (okG_L_kept t) (okG_L_kept t)
def odds (R S : Int) (b : Int) : List GE := [⟨[1]⟩, ⟨[1, 1]⟩, ⟨[0, 1, 0, 0]⟩, ⟨[S, 1, 0]⟩, ⟨[-1, 1, 0]⟩, ⟨[0, 2, 0]⟩, ⟨[0, 0, 0]⟩, ⟨[0, -1, b]⟩]
theorem odds_no {R S : Nat} {b : Int} (hb : b = R ∨ b = -1) : ∀ e ∈ odds R S b, isE R S e.l = false := by
  intro e m
  unfold odds at m
  simp only [List.mem_cons, List.not_mem_nil, or_false] at m
  rcases m with rfl | rfl | rfl | rfl | rfl | rfl | rfl | rfl
  · simp [isE]
  · simp [isE]
  · simp [isE]
  · simp [isE]
  · simp [isE]
  · simp [isE]
  · simp [isE]
  · rcases hb with rfl | rfl <;> simp [isE]
theorem map1 {α β : Type} {f : α → β} {l : List α} {i : Nat} {x : α} (h : l[i]? = some x) : (l.take (i + 1)).map f = (l.take i).map f ++ [f x] := by
  rw [List.take_add_one, h, List.map_append]; rfl
def sp_L_bent : Sp := fun vs H Q _ => ∃ (F : Hp) (v : V) (M : GM) (R S : Nat) (z k : Int), vs = [v, .int z, .int k] ∧ Same F H ∧ Is F v M ∧ IsM M R S ∧ 0 ≤ z ∧ z < 14 ∧ 0 ≤ k ∧
  ∀ (F' H' : Hp) (u : V) (N : GM), Gr mu0 F H F' H' → Is F' u N → isM N = false → N.length ≤ 20 → Q u H'
theorem ok_L_bent (t : Tx K mg) : FnOk P w K mg base CX0 1 t.a_L_bent t.fd_L_bent ["_law_machine_here", "_law_way", "_law_number"] sp_L_bent := by
  refine t.F_L_bent.ok sc_L_bent (fun vs H Q E h => ?_) (fun cdv A outer s H vs Q E hr h => ?_)
  · obtain ⟨F, v, M, R, S, z, k, rfl, _⟩ := h
    rfl
  · obtain ⟨F, v, M, R, S, z, k, rfl, sF, hv, hM, z0, z14, k0, q⟩ := h
    refine ⟨_, (pss_cons (ps_setLc (i := 3) (own := [("_law_row", 4)]) (g := gName 4) (tt := tYes) rfl sc_L_bent.nd rfl rfl (sw_true rfl rfl rfl (by decide +kernel)) (pi_list (pv 0)) (blkOk_by (N := N_L_bent) (sc := defScope s_L_bent) (by decide +kernel)) (fun _ _ _ _ _ => (pg_name (i := 4) sc_L_bent.nd rfl (by first | exact Or.inl rfl | exact Or.inr rfl))) (fun _ _ _ _ _ => pts_nil) (fun _ _ _ _ _ => (pe_callTy (T := "list") (crK (K := K) (r := rListQ) rfl call_listQ) (by rfl) t.n_list (by decide +kernel) (pa_cons (pv 4) pa_nil))))
      (pss_cons (ps_set (i := 5) sc_L_bent.nd rfl (by first | exact Or.inl rfl | exact Or.inr rfl) (pe_op op_mod (pv 2) (pe_callB (id := "len") call_lenQ (by rfl) t.n_len (by decide +kernel) (pa_cons (pv 3) pa_nil))))
      (pss_cons (ps_set (i := 6) sc_L_bent.nd rfl (by first | exact Or.inl rfl | exact Or.inr rfl) (pe_op op_mod (pe_op op_fdiv (pv 2) pe_int) (pe_callB (id := "len") call_lenQ (by rfl) t.n_len (by decide +kernel) (pa_cons (pe_ix ix_list (pv 3) pe_int (fun _ _ => rfl)) pa_nil))))
      (pss_cons (ps_if (pt_cmpR op_eq (pv 1) pe_int (nomark _)) (pss_one (ps_ret (pe_lst pa_nil))) pss_nil)
      (pss_cons (ps_if (pt_cmpR op_eq (pv 1) pe_int (nomark _)) (pss_one (ps_ret (pe_slice sl_list (pe_op op_rep (pv 3) pe_int) po_none (po_some pe_int)))) pss_nil)
      (pss_cons (ps_if (pt_cmpR op_eq (pv 1) pe_int (nomark _)) (pss_one (ps_ret (pe_lc (own := [("_law_row", 4)]) (g := gName 4) (tt := tYes) rfl sc_L_bent.nd (pi_list (pv 3)) (blkOk_by (N := N_L_bent) (sc := defScope s_L_bent) (by decide +kernel)) (fun _ _ _ _ _ => (pg_name (i := 4) sc_L_bent.nd rfl (by first | exact Or.inl rfl | exact Or.inr rfl))) (fun _ _ _ _ _ => pts_nil) (fun _ _ _ _ _ => (pe_slice (slK (K := K) (r := rSlL) rfl sl_list) (pv 4) po_none (po_some pe_int)))))) pss_nil)
      (pss_cons (ps_if (pt_cmpR op_eq (pv 1) pe_int (nomark _)) (pss_one (ps_ret (pe_lc (own := [("_law_row", 4)]) (g := gName 4) (tt := tYes) rfl sc_L_bent.nd (pi_list (pv 3)) (blkOk_by (N := N_L_bent) (sc := defScope s_L_bent) (by decide +kernel)) (fun _ _ _ _ _ => (pg_name (i := 4) sc_L_bent.nd rfl (by first | exact Or.inl rfl | exact Or.inr rfl))) (fun _ _ _ _ _ => pts_nil) (fun _ _ _ _ _ => (pe_slice (slK (K := K) (r := rSlL) rfl sl_list) (pe_op op_rep (pv 4) pe_int) po_none (po_some pe_int)))))) pss_nil)
      (pss_cons (ps_if (pt_cmpR op_eq (pv 1) pe_int (nomark _)) (pss_one (ps_ret (pe_op op_cat (pe_op op_cat (pe_slice sl_list (pv 3) po_none (po_some (pv 5))) (pe_lst (pa_cons (pe_op op_cat (pe_ix ix_list (pv 3) (pv 5) (fun _ _ => rfl)) (pe_lst (pa_cons (pe_tup pa_nil) pa_nil))) pa_nil))) (pe_slice sl_list (pv 3) (po_some (pv 5)) po_none)))) pss_nil)
      (pss_cons (ps_if (pt_cmpR op_eq (pv 1) pe_int (nomark _)) (pss_one (ps_ret (pe_op op_cat (pe_op op_cat (pe_slice sl_list (pv 3) po_none (po_some (pv 5))) (pe_lst (pa_cons (pe_lst pa_nil) pa_nil))) (pe_slice sl_list (pv 3) (po_some (pe_op op_add (pv 5) pe_int)) po_none)))) pss_nil)
      (pss_cons (ps_set (i := 7) sc_L_bent.nd rfl (by first | exact Or.inl rfl | exact Or.inr rfl) (pe_lst (pa_cons (pe_tup (pa_cons pe_int pa_nil)) (pa_cons (pe_tup (pa_cons pe_int (pa_cons pe_int pa_nil))) (pa_cons (pe_tup (pa_cons pe_int (pa_cons pe_int (pa_cons pe_int (pa_cons pe_int pa_nil))))) (pa_cons (pe_tup (pa_cons (pe_callB (id := "len") call_lenQ (by rfl) t.n_len (by decide +kernel) (pa_cons (pe_ix ix_list (pv 3) pe_int (fun _ _ => rfl)) pa_nil)) (pa_cons pe_int (pa_cons pe_int pa_nil)))) (pa_cons (pe_tup (pa_cons (pe_un un_neg pe_int) (pa_cons pe_int (pa_cons pe_int pa_nil)))) (pa_cons (pe_tup (pa_cons pe_int (pa_cons pe_int (pa_cons pe_int pa_nil)))) (pa_cons (pe_tup (pa_cons pe_int (pa_cons pe_int (pa_cons pe_int pa_nil)))) pa_nil)))))))))
      (pss_cons (ps_expr (pe_bm PySem.F.plainAttrs_list PySem.F.slot_list_append PySem.F.type_list_append mt_append (pv 7) (pa_cons (pe_tup (pa_cons pe_int (pa_cons (pe_un un_neg pe_int) (pa_cons (pe_ix ix_list (pe_lst (pa_cons (pe_callB (id := "len") call_lenQ (by rfl) t.n_len (by decide +kernel) (pa_cons (pv 3) pa_nil)) (pa_cons (pe_un un_neg pe_int) pa_nil))) (pe_op op_mod (pe_op op_fdiv (pv 2) pe_int) pe_int) (fun _ _ => rfl)) pa_nil)))) pa_nil)))
      (pss_cons (ps_asg (pe_ix ix_list (pv 7) (pe_op op_sub (pv 1) pe_int) (fun _ _ => rfl)) (pg_sub (pe_ix ix_list (pv 3) (pv 5) (fun _ _ => rfl)) (pv 6) set_list))
      (pss_one (ps_ret (pv 3))))))))))))))), ?_⟩
    have g0 : Gr mu0 F H F H := Gr.refl sF
    have lM := hM.len
    have r1 := hM.r1
    have r4 := hM.r4
    have s2 := hM.s2
    have s4 := hM.s4
    obtain ⟨am, rv, rfl, ham, hrs⟩ := id hv
    have lrv := hrs.1
    refine ⟨_, rfl, am, rfl, ⟨_, SqL.of (sF _ _ ham)⟩, fun D nD => lc_list (K := K) (a := am) (xs := rv) (fun i G => ∃ (rs : List Addr) (ess : List (List V)), Gr mu0 F H F G ∧ MaG H F G D rs ess (M.take i))
      ⟨[], [], g0.own nD, ⟨Ow.mk1 g0 nD, List.nodup_nil, (fun z => nomatch z), rfl, fun i r es h _ => (by cases h), All2.nil⟩⟩ (fun i G _ ⟨_, _, g, _⟩ => SqL.of (g.fh _ _ ham)) ?_ ?_⟩
    · rintro i y G hi ⟨rs, ess, g, x⟩
      obtain ⟨row, hMi, ra, es, rfl, hra, hes⟩ := hrs.get' hi
      have il : i < M.length := (List.getElem?_eq_some_iff.mp hMi).1
      have lrs : rs.length = i := by rw [x.len, x.dat.1, List.length_take]; omega
      refine ⟨rfl, yes ⟨_, rfl, ra, es, rfl, .inl (SqL.of (g.fh _ _ hra)), fun l nl => ?_⟩⟩
      have g4 := g.own (o := .lst es) nl
      have w4 : Ow H F (upd G l (.lst es)) l (.lst es) := Ow.mk1 g nl
      have x4 := x.gr ((Gr.refl (mu := mu0) g.fh).own (o := .lst es) nl) fun c z => z.elim
      refine ⟨_, x4.ow.h, by rw [List.length_map]; exact lt_size (by omega), ?_⟩
      have e1 : rs.map V.ref ++ [V.ref l] = (rs ++ [l]).map V.ref := by rw [List.map_append]; rfl
      rw [e1]
      refine ⟨rs ++ [l], ess ++ [es], g4.set x4.ow.f (.inl x4.ow.n), ?_⟩
      rw [List.take_add_one, hMi]
      exact x4.add w4 (x.offn nl) hes
    rintro G3 ⟨rs, ess, g3, x3⟩
    rw [lrv, List.take_length] at x3
    have lrs : (rs.map V.ref).length = R := by rw [List.length_map, x3.len, x3.dat.1, lM]
    -- at, spot
    have hat : ((k % (R : Int)).toNat) < M.length := by
      have h1 := Int.emod_nonneg k (show (R : Int) ≠ 0 by omega)
      have h2 := Int.emod_lt_of_pos k (show (0 : Int) < R by omega)
      omega
    have eat : k % (R : Int) = (((k % (R : Int)).toNat : Nat) : Int) := (Int.toNat_of_nonneg (Int.emod_nonneg k (by omega))).symm
    generalize (k % (R : Int)).toNat = at_ at hat eat
    have hsp : ((k / 4 % (S : Int)).toNat) < S := by
      have h1 := Int.emod_nonneg (k / 4) (show (S : Int) ≠ 0 by omega)
      have h2 := Int.emod_lt_of_pos (k / 4) (show (0 : Int) < S by omega)
      omega
    have esp : k / 4 % (S : Int) = (((k / 4 % (S : Int)).toNat : Nat) : Int) := (Int.toNat_of_nonneg (Int.emod_nonneg _ (by omega))).symm
    generalize (k / 4 % (S : Int)).toNat = sp at hsp esp
    obtain ⟨r0, es0, row0, hr0, he0, hw0, w0, al0, m0⟩ := x3.slot hat
    have hz0 : 0 < M.length := by omega
    obtain ⟨rz, esz, rowz, hrz, hez, hwz, wz, alz, mz⟩ := x3.slot hz0
    have lz : esz.length = S := alz.1.trans (hM.row rowz (List.mem_of_getElem? hwz))
    have mrow := List.mem_of_getElem? hw0
    have hrow0 := hM.row row0 mrow
    have l0 : es0.length = S := al0.1.trans hrow0
    refine ⟨_, rfl, _, rfl, D, _, rfl, .inl (SqL.of x3.ow.h), _, _, rfl, rfl, (by show (0 : Int) < ((rs.map V.ref).length : Nat); omega), ?_⟩
    dsimp only
    rw [lrs, eat]
    refine ⟨_, rfl, _, _, rfl, rfl, ⟨by decide, by decide⟩, _, rfl, D, _, _, _, rfl, rfl, SqL.of x3.ow.h, atI_nat (j := 0) mz, rz, esz, rfl, .inl (SqL.of wz.h), _, _, rfl, rfl, (by show (0 : Int) < (esz.length : Nat); omega), ?_⟩
    dsimp only
    rw [lz, esp]
    obtain ⟨F4, g4, s34, hm4, _, _⟩ := x3.frz g3
    obtain ⟨_, ys, e0, hD4, al4⟩ := id hm4
    cases e0
    have eys : ys = rs.map V.ref := by
      have := (g4.fh _ _ hD4).symm.trans x3.ow.h
      cases this; rfl
    have lys : ys.length = R := al4.1.trans lM
    -- 0
    refine ⟨_, rfl, rfl, _, rfl, ?_⟩
    by_cases c0 : z = 0
    · refine eqT c0 ⟨nil_le, fun l nl => ?_⟩
      obtain ⟨F5, g5, h5, _, _⟩ := g4.newE (o := .lst []) nl
      exact q F5 _ (.ref l) [] g5 ⟨l, [], rfl, h5, All2.nil⟩ rfl (Nat.zero_le _)
    refine eqF c0 ⟨_, rfl, rfl, _, rfl, ?_⟩
    by_cases c1 : z = 1
    · refine eqT c1 ⟨_, rfl, D, 5, ys, rfl, rfl, g4.fh _ _ hD4, by decide, by decide, le_size (by show ys.length * 5 ≤ 1000000; omega), fun p1 n1 => ?_⟩
      have al5 : IsAll F4 (List.replicate (5 : Int).toNat ys).flatten (List.replicate 5 M).flatten := al4.app (al4.app (al4.app (al4.app (al4.app All2.nil))))
      generalize (List.replicate (5 : Int).toNat ys).flatten = zs at al5
      have g5 := g4.own (o := .lst zs) n1
      refine ⟨_, rfl, p1, zs, rfl, SqL.of upd_same, fun p2 n2 => ?_⟩
      rw [show (5 : Int) = ((5 : Nat) : Int) from rfl, cut_take]
      obtain ⟨F6, g6, h6, s6, _⟩ := g5.newE (o := .lst (zs.take 5)) n2
      have e5 : ((List.replicate 5 M).flatten.take 5).length = 5 := by
        rw [List.length_take, List.length_flatten]
        simp only [List.map_replicate, List.sum_replicate_nat]
        omega
      exact q F6 _ (.ref p2) ((List.replicate 5 M).flatten.take 5) g6 ⟨p2, _, rfl, h6, IsAll.up (al5.take 5) s6⟩ (noM_len (by omega)) (by omega)
    refine eqF c1 ⟨_, rfl, rfl, _, rfl, ?_⟩
    by_cases c2 : z = 2
    · refine eqT c2 ⟨_, rfl, D, rfl, ⟨_, SqL.of (g4.fh _ _ hD4)⟩, fun E nE => lc_list (K := K) (a := D) (xs := ys) (fun i G => ∃ (F5 : Hp) (xs : List V), Gr mu0 F H F5 G ∧ Same F4 F5 ∧ Ow H F5 G E (.lst xs) ∧ IsAll F5 xs ((M.take i).map fun r => r.take 1))
        ⟨F4, [], g4.own nE, Same.refl F4, Ow.mk1 g4 nE, All2.nil⟩ (fun i G _ ⟨_, _, g, s, _⟩ => SqL.of (g.fh _ _ (s _ _ hD4))) ?_ ?_⟩
      · rintro i y G hi ⟨F5, xs, g5, s5, w5, al5⟩
        obtain ⟨row, hMi, ra, re, rfl, hra, hre⟩ := al4.get' hi
        have il : i < ys.length := (List.getElem?_eq_some_iff.mp hi).1
        have lx : xs.length ≤ i := by rw [al5.1, List.length_map, List.length_take]; omega
        refine ⟨rfl, yes ⟨_, rfl, _, rfl, ra, re, rfl, SqL.of (g5.fh _ _ (s5 _ _ hra)), fun p3 n3 => ?_⟩⟩
        rw [show (1 : Int) = ((1 : Nat) : Int) from rfl, cut_take]
        have g8 := g5.new (o := .lst (re.take 1)) n3
        have w8 := w5.new (u := .lst (re.take 1)) n3
        have s8 := sm_new (o := .lst (re.take 1)) (Same.refl _) (g5.fh.free n3)
        refine ⟨xs, w8.h, lt_size (by omega), _, xs ++ [V.ref p3], g8.set (o := .lst (xs ++ [V.ref p3])) w8.f (.inl w8.n), fun c o e => s8 _ _ (s5 _ _ e), w8.set (u := .lst (xs ++ [V.ref p3])), ?_⟩
        rw [map1 hMi]
        exact (IsAll.up al5 s8).app (All2.one ⟨p3, _, rfl, upd_same, IsAll.up ((IsAll.up hre s5).take 1) s8⟩)
      · rintro G ⟨F5, xs, g5, s5, w5, al5⟩
        rw [al4.1, List.take_length] at al5
        have g6 := g5.frz w5.h w5.n w5.f
        refine q _ _ _ _ g6 ⟨E, xs, rfl, upd_same, IsAll.up al5 (sm_new (Same.refl F5) w5.f)⟩ (noM_row (r := row0.take 1) (List.mem_map.mpr ⟨row0, mrow, rfl⟩) ?_) (by rw [List.length_map]; omega)
        rw [List.length_take]; omega
    refine eqF c2 ⟨_, rfl, rfl, _, rfl, ?_⟩
    by_cases c3 : z = 3
    · refine eqT c3 ⟨_, rfl, D, rfl, ⟨_, SqL.of (g4.fh _ _ hD4)⟩, fun E nE => lc_list (K := K) (a := D) (xs := ys) (fun i G => ∃ (F5 : Hp) (xs : List V), Gr mu0 F H F5 G ∧ Same F4 F5 ∧ Ow H F5 G E (.lst xs) ∧ IsAll F5 xs ((M.take i).map fun r => (r ++ (r ++ (r ++ []))).take 5))
        ⟨F4, [], g4.own nE, Same.refl F4, Ow.mk1 g4 nE, All2.nil⟩ (fun i G _ ⟨_, _, g, s, _⟩ => SqL.of (g.fh _ _ (s _ _ hD4))) ?_ ?_⟩
      · rintro i y G hi ⟨F5, xs, g5, s5, w5, al5⟩
        obtain ⟨row, hMi, ra, re, rfl, hra, hre⟩ := al4.get' hi
        have il : i < ys.length := (List.getElem?_eq_some_iff.mp hi).1
        have lx : xs.length ≤ i := by rw [al5.1, List.length_map, List.length_take]; omega
        have lre : re.length = S := hre.1.trans (hM.row row (List.mem_of_getElem? hMi))
        refine ⟨rfl, yes ⟨_, rfl, ra, 3, re, rfl, rfl, g5.fh _ _ (s5 _ _ hra), by decide, by decide, le_size (by show re.length * 3 ≤ 1000000; omega), fun p1 n1 => ?_⟩⟩
        have alr : IsAll F5 (List.replicate (3 : Int).toNat re).flatten (row ++ (row ++ (row ++ []))) := (IsAll.up hre s5).app ((IsAll.up hre s5).app ((IsAll.up hre s5).app All2.nil))
        generalize (List.replicate (3 : Int).toNat re).flatten = zs at alr
        have g7 := g5.own (o := .lst zs) n1
        have w7 := w5.own (u := .lst zs) n1
        refine ⟨_, rfl, p1, zs, rfl, SqL.of upd_same, fun p3 n3 => ?_⟩
        rw [show (5 : Int) = ((5 : Nat) : Int) from rfl, cut_take]
        have g8 := g7.new (o := .lst (zs.take 5)) n3
        have w8 := w7.new (u := .lst (zs.take 5)) n3
        have s8 := sm_new (o := .lst (zs.take 5)) (Same.refl _) (g7.fh.free n3)
        refine ⟨xs, w8.h, lt_size (by omega), _, xs ++ [V.ref p3], g8.set (o := .lst (xs ++ [V.ref p3])) w8.f (.inl w8.n), fun c o e => s8 _ _ (s5 _ _ e), w8.set (u := .lst (xs ++ [V.ref p3])), ?_⟩
        rw [map1 hMi]
        exact (IsAll.up al5 s8).app (All2.one ⟨p3, _, rfl, upd_same, IsAll.up (alr.take 5) s8⟩)
      · rintro G ⟨F5, xs, g5, s5, w5, al5⟩
        rw [al4.1, List.take_length] at al5
        have g6 := g5.frz w5.h w5.n w5.f
        refine q _ _ _ _ g6 ⟨E, xs, rfl, upd_same, IsAll.up al5 (sm_new (Same.refl F5) w5.f)⟩ (noM_row (r := (row0 ++ (row0 ++ (row0 ++ []))).take 5) (List.mem_map.mpr ⟨row0, mrow, rfl⟩) ?_) (by rw [List.length_map]; omega)
        rw [List.length_take, List.length_append, List.length_append, List.length_append]; omega
    refine eqF c3 ⟨_, rfl, rfl, _, rfl, ?_⟩
    obtain ⟨_, ey, ra, re, rfl, hra, hre⟩ := al4.get hw0
    have lre : re.length = S := hre.1.trans hrow0
    by_cases c4 : z = 4
    · refine eqT c4 ⟨_, rfl, _, rfl, _, rfl, D, ys, rfl, SqL.of (g4.fh _ _ hD4), fun p1 n1 => ?_⟩
      rw [cut_take]
      have g5 := g4.own (o := .lst (ys.take at_)) n1
      have w5 : Ow H F4 (upd G3 p1 (.lst (ys.take at_))) p1 (.lst (ys.take at_)) := Ow.mk1 g4 n1
      generalize upd G3 p1 (.lst (ys.take at_)) = G5 at g5 w5 ⊢
      refine ⟨_, rfl, _, rfl, D, ys, _, _, rfl, rfl, SqL.of (g5.fh _ _ hD4), atI_nat ey, nil_le, fun t1 n2 => ⟨one_le, fun l1 n3 => ?_⟩⟩
      obtain ⟨F6, g6, h6, s6, k6⟩ := g5.newE (o := .tup []) n2
      have w6 := w5.call k6 (fun z => z)
      have i6 : Is F6 (.ref t1) (⟨[]⟩ : GE) := ⟨t1, [], rfl, h6, All2.nil⟩
      have g7 := g6.own (o := .lst [.ref t1]) n3
      have w7 := w6.own (u := .lst [.ref t1]) n3
      refine ⟨ra, l1, re, _, rfl, rfl, g7.fh _ _ (s6 _ _ hra), upd_same, le_size (by show re.length + 1 ≤ 1000000; omega), fun p3 n4 => ⟨one_le, fun l2 n5 => ?_⟩⟩
      obtain ⟨F8, g8, h8, s8, k8⟩ := g7.newE (o := .lst (re ++ [.ref t1])) n4
      have w8 := w7.call k8 (fun z => z)
      have i8 : Is F8 (.ref p3) (row0 ++ [⟨[]⟩]) := ⟨p3, _, rfl, h8, IsAll.up ((IsAll.up hre s6).app (All2.one i6)) s8⟩
      have g9 := g8.own (o := .lst [.ref p3]) n5
      have w9 := w8.own (u := .lst [.ref p3]) n5
      refine ⟨p1, l2, _, _, rfl, rfl, w9.h, upd_same, le_size (by rw [List.length_take]; show min at_ ys.length + 1 ≤ 1000000; omega), fun p4 n6 => ?_⟩
      have gA := g9.own (o := .lst (ys.take at_ ++ [.ref p3])) n6
      have hA := (Ow.mk1 (o := .lst (ys.take at_ ++ [.ref p3])) g9 n6).h
      refine ⟨_, rfl, _, rfl, _, rfl, D, ys, rfl, SqL.of (gA.fh _ _ (s8 _ _ (s6 _ _ hD4))), fun p5 n7 => ?_⟩
      rw [cut_drop]
      have gB := gA.own (o := .lst (ys.drop at_)) n7
      have hB := ln (u := .lst (ys.drop at_)) n7 hA
      refine ⟨p4, p5, _, _, rfl, rfl, hB, upd_same, le_size (by rw [List.length_append, List.length_take, List.length_drop]; show min at_ ys.length + 1 + _ ≤ 1000000; omega), fun p6 n8 => ?_⟩
      obtain ⟨FC, gC, hC, sC, _⟩ := gB.newE (o := .lst (ys.take at_ ++ [.ref p3] ++ ys.drop at_)) n8
      have up := fun {xs : List V} {ds : GM} (z : IsAll F4 xs ds) => IsAll.up (IsAll.up (IsAll.up z s6) s8) sC
      refine q FC _ (.ref p6) (M.take at_ ++ [row0 ++ [⟨[]⟩]] ++ M.drop at_) gC ⟨p6, _, rfl, hC, ((up (al4.take at_)).app (All2.one (Is.up i8 sC))).app (up (al4.drop at_))⟩ (noM_two (r := row0 ++ [⟨[]⟩]) (r' := row0) ?_ ?_ ?_) ?_
      · exact List.mem_append_left _ (List.mem_append_right _ List.mem_cons_self)
      · refine List.mem_append_right _ ?_
        rw [List.drop_eq_getElem_cons hat]
        have : M[at_] = row0 := by
          have := List.getElem?_eq_getElem hat
          rw [hw0] at this
          exact (Option.some.inj this).symm
        rw [this]; exact List.mem_cons_self
      · rw [List.length_append]; show row0.length + 1 ≠ _; omega
      · rw [List.length_append, List.length_append, List.length_take, List.length_drop]; show min at_ M.length + 1 + _ ≤ 20; omega
    refine eqF c4 ⟨_, rfl, rfl, _, rfl, ?_⟩
    by_cases c5 : z = 5
    · refine eqT c5 ⟨_, rfl, _, rfl, _, rfl, D, ys, rfl, SqL.of (g4.fh _ _ hD4), fun p1 n1 => ?_⟩
      rw [cut_take]
      have g5 := g4.own (o := .lst (ys.take at_)) n1
      have w5 : Ow H F4 (upd G3 p1 (.lst (ys.take at_))) p1 (.lst (ys.take at_)) := Ow.mk1 g4 n1
      generalize upd G3 p1 (.lst (ys.take at_)) = G5 at g5 w5 ⊢
      refine ⟨nil_le, fun t1 n2 => ⟨one_le, fun l1 n3 => ?_⟩⟩
      obtain ⟨F6, g6, h6, s6, k6⟩ := g5.newE (o := .lst []) n2
      have w6 := w5.call k6 (fun z => z)
      have i6 : Is F6 (.ref t1) ([] : List GE) := ⟨t1, [], rfl, h6, All2.nil⟩
      have g7 := g6.own (o := .lst [.ref t1]) n3
      have w7 := w6.own (u := .lst [.ref t1]) n3
      refine ⟨p1, l1, _, _, rfl, rfl, w7.h, upd_same, le_size (by rw [List.length_take]; show min at_ ys.length + 1 ≤ 1000000; omega), fun p4 n6 => ?_⟩
      have gA := g7.own (o := .lst (ys.take at_ ++ [.ref t1])) n6
      have hA := (Ow.mk1 (o := .lst (ys.take at_ ++ [.ref t1])) g7 n6).h
      refine ⟨_, rfl, _, rfl, _, _, rfl, rfl, _, rfl, D, ys, rfl, SqL.of (gA.fh _ _ (s6 _ _ hD4)), fun p5 n7 => ?_⟩
      rw [show ((at_ : Int) + 1) = ((at_ + 1 : Nat) : Int) by omega, cut_drop]
      have gB := gA.own (o := .lst (ys.drop (at_ + 1))) n7
      have hB := ln (u := .lst (ys.drop (at_ + 1))) n7 hA
      refine ⟨p4, p5, _, _, rfl, rfl, hB, upd_same, le_size (by rw [List.length_append, List.length_take, List.length_drop]; show min at_ ys.length + 1 + _ ≤ 1000000; omega), fun p6 n8 => ?_⟩
      obtain ⟨FC, gC, hC, sC, _⟩ := gB.newE (o := .lst (ys.take at_ ++ [.ref t1] ++ ys.drop (at_ + 1))) n8
      have up := fun {xs : List V} {ds : GM} (z : IsAll F4 xs ds) => IsAll.up (IsAll.up z s6) sC
      refine q FC _ (.ref p6) (M.take at_ ++ [[]] ++ M.drop (at_ + 1)) gC ⟨p6, _, rfl, hC, ((up (al4.take at_)).app (All2.one (Is.up i6 sC))).app (up (al4.drop (at_ + 1)))⟩ (noM_row (r := []) ?_ (.inl (by decide))) ?_
      · exact List.mem_append_left _ (List.mem_append_right _ List.mem_cons_self)
      · rw [List.length_append, List.length_append, List.length_take, List.length_drop]; show min at_ M.length + 1 + _ ≤ 20; omega
    refine eqF c5 ?_
    -- ODDS
    refine ⟨one_le, fun lx1 n1 => ?_⟩
    obtain ⟨F1, g1, h1, s1, c1⟩ := g3.newE (o := .tup [.int 1]) n1
    have x3 := x3.gr c1 (fun c z => z.elim)
    have i1 : Is F1 (.ref lx1) (⟨[1]⟩ : GE) := ⟨lx1, _, rfl, h1, all_intsT [1]⟩
    refine ⟨two_le, fun lx2 n2 => ?_⟩
    obtain ⟨F2, g2, h2, s2, c2⟩ := g1.newE (o := .tup [.int 1, .int 1]) n2
    have i1 := Is.up i1 s2
    have x3 := x3.gr c2 (fun c z => z.elim)
    have i2 : Is F2 (.ref lx2) (⟨[1, 1]⟩ : GE) := ⟨lx2, _, rfl, h2, all_intsT [1, 1]⟩
    refine ⟨le_size (by show 4 ≤ 1000000; decide), fun lx3 n3 => ?_⟩
    obtain ⟨F3, g3, h3, s3, c3⟩ := g2.newE (o := .tup [.int 0, .int 1, .int 0, .int 0]) n3
    have i1 := Is.up i1 s3
    have i2 := Is.up i2 s3
    have x3 := x3.gr c3 (fun c z => z.elim)
    have i3 : Is F3 (.ref lx3) (⟨[0, 1, 0, 0]⟩ : GE) := ⟨lx3, _, rfl, h3, all_intsT [0, 1, 0, 0]⟩
    refine ⟨_, rfl, D, _, _, _, rfl, rfl, SqL.of x3.ow.h, atI_nat (j := 0) mz, rz, esz, rfl, .inl (SqL.of (x3.rows _ _ _ hrz hez).h), three_le, fun lx4 n4 => ?_⟩
    obtain ⟨F4, g4, h4, s4, c4⟩ := g3.newE (o := .tup [.int (esz.length : Nat), .int 1, .int 0]) n4
    have i1 := Is.up i1 s4
    have i2 := Is.up i2 s4
    have i3 := Is.up i3 s4
    have x3 := x3.gr c4 (fun c z => z.elim)
    have i4 : Is F4 (.ref lx4) (⟨[((esz.length : Nat) : Int), 1, 0]⟩ : GE) := ⟨lx4, _, rfl, h4, all_intsT [((esz.length : Nat) : Int), 1, 0]⟩
    refine ⟨_, rfl, three_le, fun lx5 n5 => ?_⟩
    obtain ⟨F5, g5, h5, s5, c5⟩ := g4.newE (o := .tup [.int (-1), .int 1, .int 0]) n5
    have i1 := Is.up i1 s5
    have i2 := Is.up i2 s5
    have i3 := Is.up i3 s5
    have i4 := Is.up i4 s5
    have x3 := x3.gr c5 (fun c z => z.elim)
    have i5 : Is F5 (.ref lx5) (⟨[-1, 1, 0]⟩ : GE) := ⟨lx5, _, rfl, h5, all_intsT [-1, 1, 0]⟩
    refine ⟨three_le, fun lx6 n6 => ?_⟩
    obtain ⟨F6, g6, h6, s6, c6⟩ := g5.newE (o := .tup [.int 0, .int 2, .int 0]) n6
    have i1 := Is.up i1 s6
    have i2 := Is.up i2 s6
    have i3 := Is.up i3 s6
    have i4 := Is.up i4 s6
    have i5 := Is.up i5 s6
    have x3 := x3.gr c6 (fun c z => z.elim)
    have i6 : Is F6 (.ref lx6) (⟨[0, 2, 0]⟩ : GE) := ⟨lx6, _, rfl, h6, all_intsT [0, 2, 0]⟩
    refine ⟨three_le, fun lx7 n7 => ?_⟩
    obtain ⟨F7, g7, h7, s7, c7⟩ := g6.newE (o := .tup [.int 0, .int 0, .int 0]) n7
    have i1 := Is.up i1 s7
    have i2 := Is.up i2 s7
    have i3 := Is.up i3 s7
    have i4 := Is.up i4 s7
    have i5 := Is.up i5 s7
    have i6 := Is.up i6 s7
    have x3 := x3.gr c7 (fun c z => z.elim)
    have i7 : Is F7 (.ref lx7) (⟨[0, 0, 0]⟩ : GE) := ⟨lx7, _, rfl, h7, all_intsT [0, 0, 0]⟩
    refine ⟨le_size (by show 7 ≤ 1000000; decide), fun L nL => ?_⟩
    have offL := x3.offn nL
    have gL := g7.own (o := .lst [.ref lx1, .ref lx2, .ref lx3, .ref lx4, .ref lx5, .ref lx6, .ref lx7]) nL
    have wL : Ow H F7 (upd _ L (.lst [.ref lx1, .ref lx2, .ref lx3, .ref lx4, .ref lx5, .ref lx6, .ref lx7])) L (.lst [.ref lx1, .ref lx2, .ref lx3, .ref lx4, .ref lx5, .ref lx6, .ref lx7]) := Ow.mk1 g7 nL
    have x3 := x3.gr ((Gr.refl (mu := mu0) g7.fh).own (o := .lst [.ref lx1, .ref lx2, .ref lx3, .ref lx4, .ref lx5, .ref lx6, .ref lx7]) nL) (fun c z => z.elim)
    refine ⟨_, rfl, .inl ⟨rfl, _, SqL.of wL.h⟩, _, rfl, _, rfl, D, _, rfl, .inl (SqL.of x3.ow.h), _, rfl, two_le, fun Y nY => ?_⟩
    have gY := gL.own (o := .lst [.int ((rs.map V.ref).length : Nat), .int (-1)]) nY
    have wY := wL.own (u := .lst [.int ((rs.map V.ref).length : Nat), .int (-1)]) nY
    have x3 := x3.gr ((Gr.refl (mu := mu0) gL.fh).own (o := .lst [.int ((rs.map V.ref).length : Nat), .int (-1)]) nY) (fun c z => z.elim)
    have hb : ∃ b : Int, atI [V.int ((rs.map V.ref).length : Nat), V.int (-1)] (k / 16 % 2) = some (.int b) ∧ (b = (R : Int) ∨ b = -1) := by
      rcases (by omega : k / 16 % 2 = 0 ∨ k / 16 % 2 = 1) with e | e
      · rw [e]; exact ⟨_, rfl, .inl (by rw [lrs])⟩
      · rw [e]; exact ⟨_, rfl, .inr rfl⟩
    obtain ⟨b, hb, eb⟩ := hb
    refine ⟨_, rfl, _, _, rfl, rfl, ⟨by decide, by decide⟩, _, _, rfl, rfl, (by show (0 : Int) < 2; decide), Y, _, _, _, rfl, rfl, SqL.of upd_same, hb, three_le, fun T nT => ?_⟩
    obtain ⟨FT, gT, hT, sT, cT⟩ := gY.newE (o := .tup [.int 0, .int (-1), .int b]) nT
    have wT := wY.call cT (fun z => z)
    have x3 := x3.gr cT (fun c z => z.elim)
    have iT : Is FT (.ref T) (⟨[0, -1, b]⟩ : GE) := ⟨T, _, rfl, hT, all_intsT [0, -1, b]⟩
    have i1 := Is.up i1 sT
    have i2 := Is.up i2 sT
    have i3 := Is.up i3 sT
    have i4 := Is.up i4 sT
    have i5 := Is.up i5 sT
    have i6 := Is.up i6 sT
    have i7 := Is.up i7 sT
    refine ⟨L, _, _, rfl, rfl, wT.h, lt_size (by show 7 ≤ 1000000; decide), ?_⟩
    have gW := gT.set (o := .lst (([.ref lx1, .ref lx2, .ref lx3, .ref lx4, .ref lx5, .ref lx6, .ref lx7] : List V) ++ [.ref T])) wT.f (.inl wT.n)
    have wW := wT.set (u := .lst (([.ref lx1, .ref lx2, .ref lx3, .ref lx4, .ref lx5, .ref lx6, .ref lx7] : List V) ++ [.ref T]))
    have x3 := x3.gr ((Gr.refl (mu := fun c => c = L) gT.fh).set (o := .lst (([.ref lx1, .ref lx2, .ref lx3, .ref lx4, .ref lx5, .ref lx6, .ref lx7] : List V) ++ [.ref T])) wT.f (.inr rfl)) (fun c z => by rw [z]; exact offL)
    have alW : IsAll FT (([.ref lx1, .ref lx2, .ref lx3, .ref lx4, .ref lx5, .ref lx6, .ref lx7] : List V) ++ [.ref T]) (odds R S b) := by
      have e : (odds R S b) = [⟨[1]⟩, ⟨[1, 1]⟩, ⟨[0, 1, 0, 0]⟩, ⟨[((esz.length : Nat) : Int), 1, 0]⟩, ⟨[-1, 1, 0]⟩, ⟨[0, 2, 0]⟩, ⟨[0, 0, 0]⟩] ++ [⟨[0, -1, b]⟩] := by rw [lz]; rfl
      rw [e]
      exact All2.app (All2.cons i1 (All2.cons i2 (All2.cons i3 (All2.cons i4 (All2.cons i5 (All2.cons i6 (All2.one i7))))))) (All2.one iT)
    generalize (([.ref lx1, .ref lx2, .ref lx3, .ref lx4, .ref lx5, .ref lx6, .ref lx7] : List V) ++ [.ref T]) = ws at gW wW x3 alW ⊢
    have lw : ws.length = 8 := alW.1
    -- which one, where
    have hk1 : ws[(z - 6).toNat]? = some (ws[(z - 6).toNat]'(by omega)) := List.getElem?_eq_getElem _
    generalize ws[(z - 6).toNat]'(by omega) = be at hk1
    obtain ⟨bd, hbd, ibe⟩ := alW.get' hk1
    have hbad := odds_no eb bd (List.mem_of_getElem? hbd)
    have hk2 : atI ws (z - 6) = some be := by
      have e : z - 6 = (((z - 6).toNat : Nat) : Int) := (Int.toNat_of_nonneg (by omega)).symm
      rw [e]; exact atI_nat hk1
    have w5 := x3.rows _ _ _ hr0 he0
    refine ⟨_, rfl, _, rfl, _, _, rfl, rfl, L, _, _, _, rfl, rfl, SqL.of wW.h, hk2, _, rfl, _, rfl, D, _, _, _, rfl, rfl, SqL.of x3.ow.h, atI_nat m0, _, rfl, r0, es0, _, sp, rfl, rfl, w5.h, ?_, ?_⟩
    · unfold ixN
      rw [if_pos (by omega), if_pos (by omega), Int.toNat_natCast]
    have g6 := gW.set (o := .lst (es0.set sp be)) w5.f (.inl w5.n)
    have x6 := x3.put (j := sp) hr0 he0 hw0 ibe
    obtain ⟨F7, g7, s7, hm7, _, _⟩ := x6.frz g6
    exact ⟨_, rfl, q F7 _ _ _ g7 hm7 (bad_isM hM hw0 (by omega) hbad) (by rw [List.length_set]; omega)⟩
/-! ### list.count(True) of a list of truths (wants HandS.SetFor) -/
def eqb (b : Bool) (v : Value) : Bool := match v with
  | .bool c => c == b
  | _ => false
theorem bools_eq {A : Around} {s : Shared} {b : Bool} : ∀ {us : List Value} {bs : List Bool}, Vals (bs.map V.bl) us → ∀ y ∈ us, SeqAt.EqAt A s y (.bool b) (eqb b y)
  | us, [], h => fun y hy => by cases h; cases hy
  | us, c :: bs, h => fun y hy => by
    cases h with
    | cons r h =>
      rcases List.mem_cons.mp hy with e | e
      · subst e
        obtain rfl : y = .bool c := r
        exact SeqAt.EqAt.bool_bool c b
      · exact bools_eq h y e
theorem bools_count {b : Bool} : ∀ {us : List Value} {bs : List Bool}, Vals (bs.map V.bl) us → us.countP (eqb b) = bs.count b
  | us, [], h => by cases h; rfl
  | us, c :: bs, h => by
    cases h with
    | cons r h =>
      rename_i u us
      obtain rfl : u = .bool c := r
      rw [List.countP_cons, List.count_cons, bools_count h]; rfl
def rCntB (K : PySem.W.Frag) : V → List V → Hp → VK → Prop := fun x xs H Q => ∃ (p : Addr) (bs : List Bool) (b : Bool), x = .ref p ∧ xs = [.bl b] ∧ SqL K H p (bs.map V.bl) ∧ Q (.int (bs.count b : Nat)) H
theorem mt_lcountB {X : Cx} : MtR X "list.count" (rCntB X.K) := by
  intro pins s σ H x xs v us Q I rx rxs h
  obtain ⟨p, bs, b, rfl, rfl, hs, q⟩ := h
  cases rx
  obtain ⟨u, rfl, ru⟩ := rxs.one
  obtain rfl : u = .bool b := ru
  obtain ⟨its, rv, ⟨⟨cls, dd, data, sl⟩, n, ho, hc, hdn, hd⟩, hlen⟩ := I.list hs
  simp only at hc hd
  subst hc hd
  refine call_meets PySem.F.slot_list_count ⟨_, ho, rfl⟩ PySem.F.entry_list_count (PySem.F.args_list_count_2 _ _)
    (SeqAt.list_countAt p its.toArray n dd sl (.bool b) (eqb b)) ⟨ho, fun y hy => bools_eq rv y (by simpa using hy), ?_⟩
  have ec : its.toArray.toList.countP (eqb b) = bs.count b := bools_count rv
  refine ⟨.int (bs.count b : Nat), H, I.tok _, ⟨s.toks, ?_⟩, q⟩
  show Value.int ((its.toArray.toList.countP (eqb b) : Nat) : Int) s.toks = Value.int ((bs.count b : Nat) : Int) s.toks
  rw [ec]
/-! ### what is caught (printed in part) -/
theorem all_boolsF {F : Hp} (l : List Bool) : IsAll F (l.map V.bl) l := ⟨by rw [List.length_map], fun i x y h1 h2 => by
  rw [List.getElem?_map, h2] at h1
  exact (Option.some.inj h1).symm⟩
def Cau (C : Addr) (H : Hp) (v : V) (b : Bool) : Prop := (b = false ∧ v = .non) ∨ (b = true ∧ ∃ a, v = .ref a ∧ H a = some (Kp a (.ref C) none))
theorem Cau.ln {C : Addr} {H : Hp} {v : V} {b : Bool} (h : Cau C H v b) {q : Addr} {o : HO} (n : H q = none) : Cau C (upd H q o) v b := by
  rcases h with h | ⟨e, a, ea, ha⟩
  · exact .inl h
  · exact .inr ⟨e, a, ea, (upd_ne (ne_of_none ha n)).trans ha⟩
theorem isc_Full (t : Tx K mg) {H : Hp} {v : V} {b : Bool} {Q : VK} (h : Cau t.C_NoMachine H v b) (q : Q (.bl false) H) : rIsB K [v, .ref t.C_Full] H Q := by
  rcases h with ⟨rfl, rfl⟩ | ⟨rfl, a, rfl, ha⟩
  · exact rIsB.i ⟨_, _, _, _, false, rfl, .own _, .base .non, kit_own t.i_Full t.t_Full t.sn_Full t.se_Full, q⟩
  · exact rIsB.k (rIsK.mk (cv := .ref t.C_Full) ha (ec_NoMachine t) (fun u r => r) (kit_own t.i_Full t.t_Full t.s_NoMachine_Full t.se_Full) q)
theorem isc_NoDeed (t : Tx K mg) {H : Hp} {v : V} {b : Bool} {Q : VK} (h : Cau t.C_NoMachine H v b) (q : Q (.bl false) H) : rIsB K [v, .ref t.C_NoDeed] H Q := by
  rcases h with ⟨rfl, rfl⟩ | ⟨rfl, a, rfl, ha⟩
  · exact rIsB.i ⟨_, _, _, _, false, rfl, .own _, .base .non, kit_own t.i_NoDeed t.t_NoDeed t.sn_NoDeed t.se_NoDeed, q⟩
  · exact rIsB.k (rIsK.mk (cv := .ref t.C_NoDeed) ha (ec_NoMachine t) (fun u r => r) (kit_own t.i_NoDeed t.t_NoDeed t.s_NoMachine_NoDeed t.se_NoDeed) q)
theorem isc_NoMachine (t : Tx K mg) {H : Hp} {v : V} {b : Bool} {Q : VK} (h : Cau t.C_NoMachine H v b) (q : Q (.bl b) H) : rIsB K [v, .ref t.C_NoMachine] H Q := by
  rcases h with ⟨rfl, rfl⟩ | ⟨rfl, a, rfl, ha⟩
  · exact rIsB.i ⟨_, _, _, _, false, rfl, .own _, .base .non, kit_own t.i_NoMachine t.t_NoMachine t.sn_NoMachine t.se_NoMachine, q⟩
  · exact rIsB.k (rIsK.mk (cv := .ref t.C_NoMachine) ha (ec_NoMachine t) (fun u r => r) (kit_own t.i_NoMachine t.t_NoMachine t.s_NoMachine_NoMachine t.se_NoMachine) q)
theorem isc_NoName (t : Tx K mg) {H : Hp} {v : V} {b : Bool} {Q : VK} (h : Cau t.C_NoMachine H v b) (q : Q (.bl false) H) : rIsB K [v, .ref t.C_NoName] H Q := by
  rcases h with ⟨rfl, rfl⟩ | ⟨rfl, a, rfl, ha⟩
  · exact rIsB.i ⟨_, _, _, _, false, rfl, .own _, .base .non, kit_own t.i_NoName t.t_NoName t.sn_NoName t.se_NoName, q⟩
  · exact rIsB.k (rIsK.mk (cv := .ref t.C_NoName) ha (ec_NoMachine t) (fun u r => r) (kit_own t.i_NoName t.t_NoName t.s_NoMachine_NoName t.se_NoName) q)
theorem isc_NoPaper (t : Tx K mg) {H : Hp} {v : V} {b : Bool} {Q : VK} (h : Cau t.C_NoMachine H v b) (q : Q (.bl false) H) : rIsB K [v, .ref t.C_NoPaper] H Q := by
  rcases h with ⟨rfl, rfl⟩ | ⟨rfl, a, rfl, ha⟩
  · exact rIsB.i ⟨_, _, _, _, false, rfl, .own _, .base .non, kit_own t.i_NoPaper t.t_NoPaper t.sn_NoPaper t.se_NoPaper, q⟩
  · exact rIsB.k (rIsK.mk (cv := .ref t.C_NoPaper) ha (ec_NoMachine t) (fun u r => r) (kit_own t.i_NoPaper t.t_NoPaper t.s_NoMachine_NoPaper t.se_NoPaper) q)
theorem isc_NoSize (t : Tx K mg) {H : Hp} {v : V} {b : Bool} {Q : VK} (h : Cau t.C_NoMachine H v b) (q : Q (.bl false) H) : rIsB K [v, .ref t.C_NoSize] H Q := by
  rcases h with ⟨rfl, rfl⟩ | ⟨rfl, a, rfl, ha⟩
  · exact rIsB.i ⟨_, _, _, _, false, rfl, .own _, .base .non, kit_own t.i_NoSize t.t_NoSize t.sn_NoSize t.se_NoSize, q⟩
  · exact rIsB.k (rIsK.mk (cv := .ref t.C_NoSize) ha (ec_NoMachine t) (fun u r => r) (kit_own t.i_NoSize t.t_NoSize t.s_NoMachine_NoSize t.se_NoSize) q)
theorem isc_NoSuch (t : Tx K mg) {H : Hp} {v : V} {b : Bool} {Q : VK} (h : Cau t.C_NoMachine H v b) (q : Q (.bl false) H) : rIsB K [v, .ref t.C_NoSuch] H Q := by
  rcases h with ⟨rfl, rfl⟩ | ⟨rfl, a, rfl, ha⟩
  · exact rIsB.i ⟨_, _, _, _, false, rfl, .own _, .base .non, kit_own t.i_NoSuch t.t_NoSuch t.sn_NoSuch t.se_NoSuch, q⟩
  · exact rIsB.k (rIsK.mk (cv := .ref t.C_NoSuch) ha (ec_NoMachine t) (fun u r => r) (kit_own t.i_NoSuch t.t_NoSuch t.s_NoMachine_NoSuch t.se_NoSuch) q)
theorem isc_NoText (t : Tx K mg) {H : Hp} {v : V} {b : Bool} {Q : VK} (h : Cau t.C_NoMachine H v b) (q : Q (.bl false) H) : rIsB K [v, .ref t.C_NoText] H Q := by
  rcases h with ⟨rfl, rfl⟩ | ⟨rfl, a, rfl, ha⟩
  · exact rIsB.i ⟨_, _, _, _, false, rfl, .own _, .base .non, kit_own t.i_NoText t.t_NoText t.sn_NoText t.se_NoText, q⟩
  · exact rIsB.k (rIsK.mk (cv := .ref t.C_NoText) ha (ec_NoMachine t) (fun u r => r) (kit_own t.i_NoText t.t_NoText t.s_NoMachine_NoText t.se_NoText) q)
theorem isc_NoWidth (t : Tx K mg) {H : Hp} {v : V} {b : Bool} {Q : VK} (h : Cau t.C_NoMachine H v b) (q : Q (.bl false) H) : rIsB K [v, .ref t.C_NoWidth] H Q := by
  rcases h with ⟨rfl, rfl⟩ | ⟨rfl, a, rfl, ha⟩
  · exact rIsB.i ⟨_, _, _, _, false, rfl, .own _, .base .non, kit_own t.i_NoWidth t.t_NoWidth t.sn_NoWidth t.se_NoWidth, q⟩
  · exact rIsB.k (rIsK.mk (cv := .ref t.C_NoWidth) ha (ec_NoMachine t) (fun u r => r) (kit_own t.i_NoWidth t.t_NoWidth t.s_NoMachine_NoWidth t.se_NoWidth) q)
theorem isc_Twice (t : Tx K mg) {H : Hp} {v : V} {b : Bool} {Q : VK} (h : Cau t.C_NoMachine H v b) (q : Q (.bl false) H) : rIsB K [v, .ref t.C_Twice] H Q := by
  rcases h with ⟨rfl, rfl⟩ | ⟨rfl, a, rfl, ha⟩
  · exact rIsB.i ⟨_, _, _, _, false, rfl, .own _, .base .non, kit_own t.i_Twice t.t_Twice t.sn_Twice t.se_Twice, q⟩
  · exact rIsB.k (rIsK.mk (cv := .ref t.C_Twice) ha (ec_NoMachine t) (fun u r => r) (kit_own t.i_Twice t.t_Twice t.s_NoMachine_Twice t.se_Twice) q)
def wordC (b : Bool) : Str := if b then "machine" else "none"
def sp_L_class (C : Addr) : Sp := fun vs H Q _ => ∃ (F : Hp) (v : V) (b : Bool), vs = [v] ∧ Same F H ∧ Cau C H v b ∧ ∀ H', Gr mu0 F H F H' → Q (.str (wordC b)) H'
theorem ok_L_class (t : Tx K mg) : FnOk P w K mg base CX0 1 t.a_L_class t.fd_L_class ["_law_caught_here"] (sp_L_class t.C_NoMachine) := by
  refine t.F_L_class.ok sc_L_class (fun vs H Q E h => ?_) (fun cdv A outer s H vs Q E hr h => ?_)
  · obtain ⟨F, v, b, rfl, _⟩ := h
    rfl
  · obtain ⟨F, v, b, rfl, sF, c0, q⟩ := h
    refine ⟨_, (pss_cons (ps_set (i := 1) sc_L_class.nd rfl (by first | exact Or.inl rfl | exact Or.inr rfl) (pe_lst (pa_cons (pe_callB (id := "isinstance") call_isB (by rfl) t.n_isinstance (by decide +kernel) (pa_cons (pv 0) (pa_cons (pe_glob (v := .ref t.C_Full) (by rfl) t.m_Full rfl) pa_nil))) (pa_cons (pe_callB (id := "isinstance") call_isB (by rfl) t.n_isinstance (by decide +kernel) (pa_cons (pv 0) (pa_cons (pe_glob (v := .ref t.C_NoDeed) (by rfl) t.m_NoDeed rfl) pa_nil))) (pa_cons (pe_callB (id := "isinstance") call_isB (by rfl) t.n_isinstance (by decide +kernel) (pa_cons (pv 0) (pa_cons (pe_glob (v := .ref t.C_NoMachine) (by rfl) t.m_NoMachine rfl) pa_nil))) pa_nil)))))
      (pss_cons (ps_set (i := 1) sc_L_class.nd rfl (by first | exact Or.inl rfl | exact Or.inr rfl) (pe_op op_cat (pv 1) (pe_lst (pa_cons (pe_callB (id := "isinstance") call_isB (by rfl) t.n_isinstance (by decide +kernel) (pa_cons (pv 0) (pa_cons (pe_glob (v := .ref t.C_NoName) (by rfl) t.m_NoName rfl) pa_nil))) (pa_cons (pe_callB (id := "isinstance") call_isB (by rfl) t.n_isinstance (by decide +kernel) (pa_cons (pv 0) (pa_cons (pe_glob (v := .ref t.C_NoPaper) (by rfl) t.m_NoPaper rfl) pa_nil))) (pa_cons (pe_callB (id := "isinstance") call_isB (by rfl) t.n_isinstance (by decide +kernel) (pa_cons (pv 0) (pa_cons (pe_glob (v := .ref t.C_NoSize) (by rfl) t.m_NoSize rfl) pa_nil))) pa_nil))))))
      (pss_cons (ps_set (i := 1) sc_L_class.nd rfl (by first | exact Or.inl rfl | exact Or.inr rfl) (pe_op op_cat (pv 1) (pe_lst (pa_cons (pe_callB (id := "isinstance") call_isB (by rfl) t.n_isinstance (by decide +kernel) (pa_cons (pv 0) (pa_cons (pe_glob (v := .ref t.C_NoSuch) (by rfl) t.m_NoSuch rfl) pa_nil))) (pa_cons (pe_callB (id := "isinstance") call_isB (by rfl) t.n_isinstance (by decide +kernel) (pa_cons (pv 0) (pa_cons (pe_glob (v := .ref t.C_NoText) (by rfl) t.m_NoText rfl) pa_nil))) (pa_cons (pe_callB (id := "isinstance") call_isB (by rfl) t.n_isinstance (by decide +kernel) (pa_cons (pv 0) (pa_cons (pe_glob (v := .ref t.C_NoWidth) (by rfl) t.m_NoWidth rfl) pa_nil))) pa_nil))))))
      (pss_cons (ps_expr (pe_bm PySem.F.plainAttrs_list PySem.F.slot_list_append PySem.F.type_list_append mt_append (pv 1) (pa_cons (pe_callB (id := "isinstance") call_isB (by rfl) t.n_isinstance (by decide +kernel) (pa_cons (pv 0) (pa_cons (pe_glob (v := .ref t.C_Twice) (by rfl) t.m_Twice rfl) pa_nil))) pa_nil)))
      (pss_cons (ps_if (pt_cmpR op_isN (pv 0) pe_non (nomark _)) (pss_one (ps_ret pe_str)) pss_nil)
      (pss_cons (ps_if (PW.pt (pw_or (pt_not (pt_val (pe_callB (id := "isinstance") call_isB (by rfl) t.n_isinstance (by decide +kernel) (pa_cons (pv 0) (pa_cons (pe_bltn (v := .ty "ValueError") (by rfl) t.n_ValueError (by decide +kernel) rfl) pa_nil))))) (pw_or1 (pt_cmpR op_ne (pe_bm PySem.F.plainAttrs_list PySem.F.slot_list_count PySem.F.type_list_count mt_lcountB (pv 1) (pa_cons pe_bl pa_nil)) pe_int (nomark _))))) (pss_one (ps_ret pe_str)) pss_nil)
      (pss_one (ps_ret (pe_ix ix_list (pe_lst (pa_cons pe_str (pa_cons pe_str pa_nil))) (pe_callTy (T := "int") call_int1 (by rfl) t.n_int (by decide +kernel) (pa_cons (pe_ix ix_list (pv 1) pe_int (fun _ _ => rfl)) pa_nil)) (fun _ _ => rfl)))))))))), ?_⟩
    have g0 : Gr mu0 F H F H := Gr.refl sF
    refine ⟨_, rfl, isc_Full t c0 ⟨_, rfl, isc_NoDeed t c0 ⟨_, rfl, isc_NoMachine t c0 ⟨three_le, fun l1 n1 => ?_⟩⟩⟩⟩
    have g1 := g0.own (o := .lst [.bl false, .bl false, .bl b]) n1
    have c1 := c0.ln (o := .lst [.bl false, .bl false, .bl b]) n1
    have h1 : (upd H l1 (.lst [.bl false, .bl false, .bl b])) l1 = some (.lst [.bl false, .bl false, .bl b]) := upd_same
    generalize upd H l1 (.lst [.bl false, .bl false, .bl b]) = H1 at g1 c1 h1 ⊢
    refine ⟨_, rfl, _, rfl, isc_NoName t c1 ⟨_, rfl, isc_NoPaper t c1 ⟨_, rfl, isc_NoSize t c1 ⟨three_le, fun l2 n2 => ?_⟩⟩⟩⟩
    refine ⟨l1, l2, _, _, rfl, rfl, ln n2 h1, upd_same, le_size (by show 3 + 3 ≤ 1000000; decide), fun l3 n3 => ?_⟩
    have g3 := (g1.own (o := .lst [.bl false, .bl false, .bl false]) n2).own (o := .lst ([.bl false, .bl false, .bl b] ++ [.bl false, .bl false, .bl false])) n3
    have c3 := (c1.ln (o := .lst [.bl false, .bl false, .bl false]) n2).ln (o := .lst ([.bl false, .bl false, .bl b] ++ [.bl false, .bl false, .bl false])) n3
    have h3 : (upd (upd H1 l2 (.lst [.bl false, .bl false, .bl false])) l3 (.lst ([.bl false, .bl false, .bl b] ++ [.bl false, .bl false, .bl false]))) l3 = some (.lst [.bl false, .bl false, .bl b, .bl false, .bl false, .bl false]) := upd_same
    generalize upd (upd H1 l2 (.lst [.bl false, .bl false, .bl false])) l3 (.lst ([.bl false, .bl false, .bl b] ++ [.bl false, .bl false, .bl false])) = H3 at g3 c3 h3 ⊢
    refine ⟨_, rfl, _, rfl, isc_NoSuch t c3 ⟨_, rfl, isc_NoText t c3 ⟨_, rfl, isc_NoWidth t c3 ⟨three_le, fun l4 n4 => ?_⟩⟩⟩⟩
    refine ⟨l3, l4, _, _, rfl, rfl, ln n4 h3, upd_same, le_size (by show 6 + 3 ≤ 1000000; decide), fun l5 n5 => ?_⟩
    have g5 := (g3.own (o := .lst [.bl false, .bl false, .bl false]) n4).own (o := .lst ([.bl false, .bl false, .bl b, .bl false, .bl false, .bl false] ++ [.bl false, .bl false, .bl false])) n5
    have c5 := (c3.ln (o := .lst [.bl false, .bl false, .bl false]) n4).ln (o := .lst ([.bl false, .bl false, .bl b, .bl false, .bl false, .bl false] ++ [.bl false, .bl false, .bl false])) n5
    have w5 : Ow H F (upd (upd H3 l4 (.lst [.bl false, .bl false, .bl false])) l5 (.lst ([.bl false, .bl false, .bl b, .bl false, .bl false, .bl false] ++ [.bl false, .bl false, .bl false]))) l5 (.lst [.bl false, .bl false, .bl b, .bl false, .bl false, .bl false, .bl false, .bl false, .bl false]) := Ow.mk1 (g3.own (o := .lst [.bl false, .bl false, .bl false]) n4) n5
    generalize upd (upd H3 l4 (.lst [.bl false, .bl false, .bl false])) l5 (.lst ([.bl false, .bl false, .bl b, .bl false, .bl false, .bl false] ++ [.bl false, .bl false, .bl false])) = H5 at g5 c5 w5 ⊢
    refine ⟨_, rfl, .inl ⟨rfl, _, SqL.of w5.h⟩, _, rfl, isc_Twice t c5 ⟨l5, _, _, rfl, rfl, w5.h, lt_size (by show 9 ≤ 1000000; decide), ?_⟩⟩
    have g6 := g5.set (o := .lst ([.bl false, .bl false, .bl b, .bl false, .bl false, .bl false, .bl false, .bl false, .bl false] ++ [.bl false])) w5.f (.inl w5.n)
    have h6 : (upd H5 l5 (.lst ([.bl false, .bl false, .bl b, .bl false, .bl false, .bl false, .bl false, .bl false, .bl false] ++ [.bl false]))) l5 = some (.lst ([false, false, b, false, false, false, false, false, false, false].map V.bl)) := upd_same
    rcases c0 with ⟨rfl, rfl⟩ | ⟨rfl, a, rfl, ha⟩
    · exact ⟨_, rfl, rfl, _, rfl, ifT rfl (q _ g6)⟩
    · have ha6 : (upd H5 l5 (.lst ([.bl false, .bl false, .bl true, .bl false, .bl false, .bl false, .bl false, .bl false, .bl false] ++ [.bl false]))) a = some (Kp a (.ref t.C_NoMachine) none) := by
        have e : a ≠ l5 := fun z => by rw [z] at ha; rw [w5.n] at ha; cases ha
        rw [upd_ne e]
        rcases c5 with ⟨z, _⟩ | ⟨_, a', ea, ha'⟩
        · cases z
        · cases ea; exact ha'
      refine ⟨_, rfl, rfl, _, rfl, ifF rfl ?_⟩
      refine ⟨_, rfl, rIsB.k (rIsK.mk (cv := .type "ValueError") ha6 (ec_NoMachine t) (fun u r => r) (kit_blt t.s_NoMachine_ValueError) ⟨_, rfl, ifF rfl ?_⟩)⟩
      refine ⟨_, rfl, .inl ⟨rfl, _, SqL.of h6⟩, l5, _, true, rfl, rfl, SqL.of h6, rfl, _, rfl, ifF rfl ?_⟩
      refine ⟨two_le, fun l7 n7 => ?_⟩
      have g7 := g6.own (o := .lst [.str "no", .str "machine"]) n7
      have h7 := ln (u := .lst [.str "no", .str "machine"]) n7 h6
      exact ⟨_, rfl, l5, _, _, _, rfl, rfl, SqL.of h7, rfl, .inr ⟨_, rfl, l7, _, _, _, rfl, rfl, SqL.of upd_same, rfl, q _ g7⟩⟩
/-- a machine (false), or what is none (true) -/
def Cin (F : Hp) (v : V) (b : Bool) : Prop := (b = false ∧ ∃ (M : Mach) (R S : Nat), Is F v M ∧ MOk M R S) ∨ (b = true ∧ ∃ M : GM, Is F v M ∧ isM M = false)
theorem thr_door {C : Addr} {F H F1 H1 : Hp} {v : V} {b : Bool} {bl : Addr} {n : Nat} {Q : VK} {E : XK} (hd : Cin F v b) (g : Gr mu0 F H F1 H1) (hb : F1 bl = some (.tup ((List.replicate n (0 : Int)).map V.int))) (n1 : 1 ≤ n) (n4 : n ≤ 4)
    (q : b = false → ∀ F' H' u, Gr mu0 F H F' H' → Q u H') (e : b = true → ∀ F' H', Gr mu0 F H F' H' → E (.ref C) none H') : sp_through [v, .ref bl, .int 0, .int 1] H1 Q E ∨ sp_doorN4 C [v, .ref bl, .int 0, .int 1] H1 Q E := by
  rcases hd with ⟨rfl, M, R, S, hv, hM⟩ | ⟨rfl, M, hv, hM⟩
  · have := hM.s2
    have := hM.r1
    refine .inl ⟨F1, v, bl, M, R, S, _, 0, 1, rfl, g.fh, hv.up g.ff, hM, hb, ?_, by rw [List.length_replicate]; exact n1, by rw [List.length_replicate]; omega, by omega, by omega, fun F' H' u g' _ => q rfl F' H' u (g.trans g')⟩
    intro x m
    rw [List.eq_of_mem_replicate m]
    omega
  · exact .inr ⟨F1, v, _, _, _, M, rfl, g.fh, hv.up g.ff, hM, fun H' g' => e rfl _ H' (g.trans g')⟩
def sp_L_caught : Sp := fun vs H Q _ => ∃ (F : Hp) (v : V) (z k : Int) (b : Bool), vs = [.int z, v, .int k] ∧ Same F H ∧ 0 ≤ z ∧ z ≤ 2 ∧ 0 ≤ k ∧ Cin F v b ∧ ∀ F' H', Gr mu0 F H F' H' → Q (.str (wordC b)) H'
theorem ok_L_caught (t : Tx K mg) : FnOk P w K mg base CX0 6 t.a_L_caught t.fd_L_caught ["_law_turn", "_law_machine_here", "_law_number"] sp_L_caught := by
  refine t.F_L_caught.ok sc_L_caught (fun vs H Q E h => ?_) (fun cdv A outer s H vs Q E hr h => ?_)
  · obtain ⟨F, v, z, k, b, rfl, _⟩ := h
    rfl
  · obtain ⟨F, v, z, k, b, rfl, sF, z0, z2, k0, hd, q⟩ := h
    refine ⟨_, (pss_cons (ps_set (i := 3) sc_L_caught.nd rfl (by first | exact Or.inl rfl | exact Or.inr rfl) pe_non)
      (pss_cons (ps_try_kp (i := 4) rfl rfl sc_L_caught.nd rfl rfl ⟨by rfl, by decide, .inl t.m_MillError⟩ (fun W pn xe tk _ => (pss_cons (ps_if (pt_cmpR op_eq (pv 0) pe_int (nomark _)) (pss_one (ps_expr (pe_callS (okx_through t) (hr.mono (by decide)) (by rfl) t.m_through t.F_through.kp t.b_through (fun σ => passAt tk σ) (pa_cons (pv 1) (pa_cons (pe_op (orK (K := K) (r := rRepA) rfl op_repA) (pe_tup (pa_cons pe_int pa_nil)) (pe_op op_add pe_int (pe_op op_mod (pv 2) pe_int))) (pa_cons pe_int (pa_cons pe_int pa_nil))))))) pss_nil)
      (pss_cons (ps_if (pt_cmpR op_eq (pv 0) pe_int (nomark _)) (pss_one (ps_expr (pe_callS (okx_by_blocks t) (hr.mono (by decide)) (by rfl) t.m_by_blocks t.F_by_blocks.kp t.b_by_blocks (fun σ => passAt tk σ) (pa_cons (pv 1) (pa_cons (pe_op op_add pe_int (pe_op op_mod (pv 2) pe_int)) (pa_cons (pe_op op_mod (pe_op op_fdiv (pv 2) pe_int) pe_int) pa_nil)))))) pss_nil)
      (pss_one (ps_if (pt_cmpR op_eq (pv 0) pe_int (nomark _)) (pss_one (ps_expr (pe_callS (okx_by_strides t) (hr.mono (by decide)) (by rfl) t.m_by_strides t.F_by_strides.kp t.b_by_strides (fun σ => passAt tk σ) (pa_cons (pv 1) (pa_cons pe_int (pa_cons (pe_tup (pa_cons (pe_lst pa_nil) (pa_cons pe_int (pa_cons (pe_lst pa_nil) pa_nil)))) (pa_cons (pe_op op_mod (pv 2) pe_int) pa_nil))))))) pss_nil))))) (fun a oe cls d pn hz hf => (pss_one (ps_set (i := 3) sc_L_caught.nd rfl (by first | exact Or.inl rfl | exact Or.inr rfl) (pv 4)))))
      (pss_one (ps_ret (pe_call (ok_L_class t) (hr.mono (by decide)) (by rfl) t.m_L_class t.F_L_class.kp t.b_L_class .nil pass0 (pa_cons (pv 3) pa_nil)))))), ?_⟩
    have g0 : Gr mu0 F H F H := Gr.refl sF
    have fin : ∀ {F' H' : Hp} {u : V}, Gr mu0 F H F' H' → Cau t.C_NoMachine H' u b → (∃ (F0 : Hp) (v0 : V) (b0 : Bool), [u] = [v0] ∧ Same F0 H' ∧ Cau t.C_NoMachine H' v0 b0 ∧ ∀ H'', Gr mu0 F0 H' F0 H'' → Q (.str (wordC b0)) H'') := fun g c => ⟨_, _, b, rfl, g.fh, c, fun H'' g' => q _ H'' (g.trans g')⟩
    have k4a := Int.emod_nonneg k (show (4 : Int) ≠ 0 by decide)
    have k4b := Int.emod_lt_of_pos k (show (0 : Int) < 4 by decide)
    rcases (by omega : z = 0 ∨ z = 1 ∨ z = 2) with rfl | rfl | rfl
    · refine ⟨_, rfl, rfl, _, rfl, eqT rfl ⟨_, rfl, one_le, fun p np => ⟨_, rfl, _, _, rfl, rfl, (by show (0 : Int) < 4; decide), _, _, rfl, rfl, p, _, _, rfl, rfl, SqT.of upd_same, (fun z => nomatch z), by omega, by omega, by decide, fun c => ?_, fun c p2 n2 => ?_⟩⟩⟩
      · obtain ⟨F1, g1, h1, _, _⟩ := g0.newE (o := .tup [.int 0]) np
        refine thr_door (n := 1) hd g1 h1 (by decide) (by decide) (fun eb F' H' u g => ?_) (fun eb F' H' g => ⟨em_NoMachine_MillError t, fun a na => ⟨_, rfl, ?_⟩⟩)
        · refine ⟨_, rfl, rfl, _, rfl, eqF (by decide) ⟨_, rfl, rfl, _, rfl, eqF (by decide) ⟨_, rfl, fin g (.inl ⟨eb, rfl⟩)⟩⟩⟩
        · exact ⟨_, rfl, fin (g.own na) (.inr ⟨eb, a, rfl, upd_same⟩)⟩
      · have g1 := g0.own (o := .tup [.int 0]) np
        dsimp only at n2 c ⊢
        rw [flat_one]
        obtain ⟨F1, g2, h2, _, _⟩ := g1.newE (o := .tup ((List.replicate (1 + k % 4).toNat (0 : Int)).map V.int)) n2
        refine thr_door hd g2 h2 (by omega) (by omega) (fun eb F' H' u g => ?_) (fun eb F' H' g => ⟨em_NoMachine_MillError t, fun a na => ⟨_, rfl, ?_⟩⟩)
        · refine ⟨_, rfl, rfl, _, rfl, eqF (by decide) ⟨_, rfl, rfl, _, rfl, eqF (by decide) ⟨_, rfl, fin g (.inl ⟨eb, rfl⟩)⟩⟩⟩
        · exact ⟨_, rfl, fin (g.own na) (.inr ⟨eb, a, rfl, upd_same⟩)⟩
    · refine ⟨_, rfl, rfl, _, rfl, eqF (by decide) ⟨_, rfl, rfl, _, rfl, eqT rfl ?_⟩⟩
      refine ⟨_, rfl, _, rfl, _, _, rfl, rfl, (by show (0 : Int) < 4; decide), _, _, rfl, rfl, _, rfl, _, _, rfl, rfl, ⟨by decide, by decide⟩, _, _, rfl, rfl, (by show (0 : Int) < 9; decide), ?_⟩
      dsimp only
      have k9a := Int.emod_nonneg (k / 4) (show (9 : Int) ≠ 0 by decide)
      have k9b := Int.emod_lt_of_pos (k / 4) (show (0 : Int) < 9 by decide)
      have e1 : 1 + k % 4 = (((1 + k % 4).toNat : Nat) : Int) := (Int.toNat_of_nonneg (by omega)).symm
      have e2 : k / 4 % 9 = (((k / 4 % 9).toNat : Nat) : Int) := (Int.toNat_of_nonneg k9a).symm
      rcases id hd with ⟨rfl, M, R, S, hv, hM⟩ | ⟨rfl, M, hv, hM⟩
      · refine .inl ⟨F, v, M, R, S, (1 + k % 4).toNat, (k / 4 % 9).toNat, by rw [← e1, ← e2], sF, hv, hM, by omega, by omega, by omega, fun F' H' u l xs y Y _ g _ _ _ _ => ?_⟩
        exact ⟨_, rfl, rfl, _, rfl, eqF (by decide) ⟨_, rfl, fin g (.inl ⟨rfl, rfl⟩)⟩⟩
      · refine .inr ⟨F, v, _, _, M, rfl, sF, hv, hM, fun H' g => ⟨em_NoMachine_MillError t, fun a na => ⟨_, rfl, ?_⟩⟩⟩
        exact ⟨_, rfl, fin (g.own na) (.inr ⟨rfl, a, rfl, upd_same⟩)⟩
    · refine ⟨_, rfl, rfl, _, rfl, eqF (by decide) ⟨_, rfl, rfl, _, rfl, eqF (by decide) ⟨_, rfl, rfl, _, rfl, eqT rfl ?_⟩⟩⟩
      refine ⟨_, rfl, nil_le, fun l1 n1 => ⟨nil_le, fun l2 n2 => ⟨three_le, fun p3 n3 => ⟨_, rfl, _, _, rfl, rfl, (by show (0 : Int) < 9; decide), ?_⟩⟩⟩⟩
      dsimp only
      obtain ⟨F1, g1, h1, _, _⟩ := g0.newE (o := .lst []) n1
      obtain ⟨F2, g2, h2, s2, _⟩ := g1.newE (o := .lst []) n2
      obtain ⟨F3, g3, h3, s3, _⟩ := g2.newE (o := .tup [.ref l1, .int 0, .ref l2]) n3
      have iu : Is F3 (.ref p3) (⟨[], 0, []⟩ : Rs) := ⟨p3, _, _, _, rfl, h3, ⟨l1, [], rfl, s3 _ _ (s2 _ _ h1), All2.nil⟩, rfl, l2, [], rfl, s3 _ _ h2, All2.nil⟩
      have k9a := Int.emod_nonneg k (show (9 : Int) ≠ 0 by decide)
      have k9b := Int.emod_lt_of_pos k (show (0 : Int) < 9 by decide)
      have e2 : k % 9 = (((k % 9).toNat : Nat) : Int) := (Int.toNat_of_nonneg k9a).symm
      rcases id hd with ⟨rfl, M, R, S, hv, hM⟩ | ⟨rfl, M, hv, hM⟩
      · have := hM.s2
        have := hM.r1
        refine .inl ⟨F3, v, .ref p3, M, R, S, ⟨[], 0, []⟩, 0, (k % 9).toNat, by rw [← e2], g3.fh, hv.up g3.ff, hM, iu, ⟨⟨OkS.nil, Nat.zero_le _⟩, ⟨Int.le_refl _, by show (0 : Int) < S; omega⟩, OkS.nil, Nat.zero_le _⟩, by omega, by omega, by omega, fun F' H' t u l1 l2 xs1 xs2 z _ g _ _ _ _ _ _ _ => ?_⟩
        exact ⟨_, rfl, fin (g3.trans g) (.inl ⟨rfl, rfl⟩)⟩
      · refine .inr ⟨F3, v, _, _, _, M, rfl, g3.fh, hv.up g3.ff, hM, fun H' g => ⟨em_NoMachine_MillError t, fun a na => ⟨_, rfl, ?_⟩⟩⟩
        exact ⟨_, rfl, fin ((g3.trans g).own na) (.inr ⟨rfl, a, rfl, upd_same⟩)⟩
theorem SqL.up {K : PySem.W.Frag} {H H' : Hp} {a : Addr} {xs : List V} (h : SqL K H a xs) (s : Same H H') : SqL K H' a xs :=
  h.elim (fun h => .inl (h.elim (fun h => .inl (s _ _ h)) fun ⟨o, h⟩ => .inr ⟨o, s _ _ h⟩)) fun h => .inr h
def sp_law (K : PySem.W.Frag) : Sp := fun vs H Q _ => ∃ (a : Addr) (ns : List Int), vs = [.ref a] ∧ SqL K H a (ns.map V.int) ∧ ns.length ≤ 63 ∧ ∀ H', Q (.bl true) H'
theorem ok_law (t : Tx K mg) : FnOk P w K mg base CX0 7 t.a_law t.fd_law ["_law_script"] (sp_law K) := by
  refine t.F_law.ok sc_law (fun vs H Q E h => ?_) (fun cdv A outer s H vs Q E hr h => ?_)
  · obtain ⟨l, ns, rfl, _⟩ := h
    rfl
  · obtain ⟨l, ns, rfl, hS, hn, q⟩ := h
    refine ⟨_, (pss_cons (ps_for PassesOwn.never rfl (pi_range1 (by rfl) t.n_range (pa_cons pe_int pa_nil)) (pg_name (i := 1) sc_law.nd rfl (by first | exact Or.inl rfl | exact Or.inr rfl)) (pss_cons (ps_set (i := 2) sc_law.nd rfl (by first | exact Or.inl rfl | exact Or.inr rfl) (pe_call (ok_L_purse t) (hr.mono (by decide)) (by rfl) t.m_L_purse t.F_L_purse.kp t.b_L_purse .nil pass0 (pa_cons (pv 0) (pa_cons (pv 1) pa_nil))))
      (pss_cons (ps_set (i := 3) sc_law.nd rfl (by first | exact Or.inl rfl | exact Or.inr rfl) (pe_call (ok_L_machine t) (hr.mono (by decide)) (by rfl) t.m_L_machine t.F_L_machine.kp t.b_L_machine .nil pass0 (pa_cons (pv 2) pa_nil)))
      (pss_cons (ps_set (i := 4) sc_law.nd rfl (by first | exact Or.inl rfl | exact Or.inr rfl) (pe_call (ok_L_kept t) (hr.mono (by decide)) (by rfl) t.m_L_kept t.F_L_kept.kp t.b_L_kept .nil pass0 (pa_cons (pv 3) pa_nil)))
      (pss_cons (ps_set (i := 5) sc_law.nd rfl (by first | exact Or.inl rfl | exact Or.inr rfl) (pe_call (ok_L_bent t) (hr.mono (by decide)) (by rfl) t.m_L_bent t.F_L_bent.kp t.b_L_bent .nil pass0 (pa_cons (pv 3) (pa_cons (pe_call (ok_L_draw t) (hr.mono (by decide)) (by rfl) t.m_L_draw t.F_L_draw.kp t.b_L_draw .nil pass0 (pa_cons (pv 2) (pa_cons pe_int pa_nil))) (pa_cons (pe_call (ok_L_draw t) (hr.mono (by decide)) (by rfl) t.m_L_draw t.F_L_draw.kp t.b_L_draw .nil pass0 (pa_cons (pv 2) (pa_cons pe_int pa_nil))) pa_nil)))))
      (pss_cons (ps_set (i := 6) sc_law.nd rfl (by first | exact Or.inl rfl | exact Or.inr rfl) (pe_call (ok_L_kept t) (hr.mono (by decide)) (by rfl) t.m_L_kept t.F_L_kept.kp t.b_L_kept .nil pass0 (pa_cons (pv 5) pa_nil)))
      (pss_cons (ps_set (i := 7) sc_law.nd rfl (by first | exact Or.inl rfl | exact Or.inr rfl) (pe_call (ok_L_draw t) (hr.mono (by decide)) (by rfl) t.m_L_draw t.F_L_draw.kp t.b_L_draw .nil pass0 (pa_cons (pv 2) (pa_cons pe_int pa_nil))))
      (pss_cons (ps_for PassesOwn.never rfl (pi_list (pe_lst (pa_cons pe_int (pa_cons pe_int (pa_cons pe_int (pa_cons pe_int pa_nil)))))) (pg_name (i := 8) sc_law.nd rfl (by first | exact Or.inl rfl | exact Or.inr rfl)) (pss_one (ps_if (PW.pt (pw_or (pt_cmpR op_ne (pe_call (ok_L_caught t) (hr.mono (by decide)) (by rfl) t.m_L_caught t.F_L_caught.kp t.b_L_caught .nil pass0 (pa_cons (pv 8) (pa_cons (pv 6) (pa_cons (pv 7) pa_nil)))) pe_str (nomark _)) (pw_or1 (pt_cmpR op_ne (pe_call (ok_L_caught t) (hr.mono (by decide)) (by rfl) t.m_L_caught t.F_L_caught.kp t.b_L_caught .nil pass0 (pa_cons (pv 8) (pa_cons (pv 4) (pa_cons (pv 7) pa_nil)))) pe_str (nomark _))))) (pss_one (ps_ret pe_bl)) pss_nil)))
      (pss_one (ps_if (PW.pt (pw_or (pt_cmpR (op_neD hr.units) (pv 4) (pv 3) (nomark _)) (pw_or1 (pt_cmpR (op_neD hr.units) (pv 6) (pv 5) (nomark _))))) (pss_one (ps_ret pe_bl)) pss_nil))))))))))
      (pss_one (ps_ret pe_bl))), ?_⟩
    refine ⟨12, rfl, by decide, by decide, for_range (lo := 0) (n := 12) (fun i σ G => ∃ (v1 v2 v3 v4 v5 v6 v7 v8 : Option V), σ = [some (.ref l), v1, v2, v3, v4, v5, v6, v7, v8] ∧ Same H G) ⟨none, none, none, none, none, none, none, none, rfl, Same.refl H⟩ ?_ ?_⟩
    · rintro i σ G hi ⟨v1, v2, v3, v4, v5, v6, v7, v8, rfl, sG⟩
      refine ⟨_, rfl, _, rfl, l, ns, i, by rw [Int.zero_add]; rfl, SqL.up hS sG, by omega, fun p G1 s1 np hp => ?_⟩
      have g0 : Gr (muP p) G G1 G G1 := Gr.refl s1
      refine ⟨_, rfl, G, p, _, rfl, s1, np, hp, by decide, fun F2 G2 v M R S g2 hp2 hM hv => ?_⟩
      have t2 := g0.trans g2
      have lM : M.length ≤ 4 := by rw [hM.len]; exact hM.r4
      have hgm := isM_gm hM
      obtain ⟨R', S', hI⟩ := isM_of hgm
      refine ⟨_, rfl, .inl ⟨F2, v, M, rfl, t2.fh, hv, by omega, fun F3 G3 hd g3 hhd => ?_⟩⟩
      have t3 := t2.trans g3.of0
      have hp3 := hp2.gr g3 (fun z => z)
      refine ⟨_, rfl, _, rfl, F3, p, 14, _, rfl, t3.fh, hp.f np t3, hp3, by omega, by decide, by decide, fun d1 G4 d10 d11 g4 hp4 => ?_⟩
      have t4 := t3.trans g4
      refine ⟨_, rfl, F3, p, 64, _, rfl, t4.fh, hp.f np t4, hp4, by omega, by decide, by decide, fun d2 G5 d20 d21 g5 hp5 => ?_⟩
      have t5 := t4.trans g5
      have hv3 := Is.up hv g3.ff
      refine ⟨F3, v, gm M, R', S', d1, d2, rfl, t5.fh, gm_is hv3, hI, d10, d11, d20, fun F6 G6 bt N g6 hbt hN lN => ?_⟩
      have t6 := t5.trans g6.of0
      have hp6 := hp5.gr g6 (fun z => z)
      refine ⟨_, rfl, .inr ⟨F6, bt, N, rfl, t6.fh, hbt, lN, fun F7 G7 ot g7 hot => ?_⟩⟩
      have t7 := t6.trans g7.of0
      have hp7 := hp6.gr g7 (fun z => z)
      refine ⟨_, rfl, F7, p, 36, _, rfl, t7.fh, hp.f np t7, hp7, by omega, by decide, by decide, fun nb G8 nb0 nb1 g8 hp8 => ?_⟩
      have t8 := t7.trans g8
      have hv7 := Is.up (Is.up hv3 g6.ff) g7.ff
      have hhd7 := Is.up (Is.up hhd g6.ff) g7.ff
      have hbt7 := Is.up hbt g7.ff
      refine ⟨le_size (by show 4 ≤ 1000000; decide), fun L nL => ?_⟩
      obtain ⟨F9, t9, hL, s9⟩ : ∃ F9, Gr (muP p) G G1 F9 (upd G8 L (.lst [.int 0, .int 1, .int 2, .int 0])) ∧ F9 L = some (.lst [.int 0, .int 1, .int 2, .int 0]) ∧ Same F7 F9 := ⟨_, t8.new nL, upd_same, sm_new (Same.refl F7) (t8.fh.free nL)⟩
      refine ⟨L, rfl, ⟨_, SqL.of (t9.fh _ _ hL)⟩, for_list (K := K) (a := L) (xs := [.int 0, .int 1, .int 2, .int 0]) (fun j σ U => ∃ (F : Hp) (v8 : Option V), σ = [some (.ref l), some (.int (0 + (i : Int))), some (.ref p), some v, some hd, some bt, some ot, some (.int nb), v8] ∧ Gr (muP p) G G1 F U ∧ Same F9 F) ⟨F9, _, rfl, t9, Same.refl F9⟩ (fun j σ U _ ⟨F, _, _, g, s⟩ => SqL.of (g.fh _ _ (s _ _ hL))) ?_ ?_⟩
      · rintro j y σ U hj ⟨F, v8, rfl, g, s⟩
        obtain ⟨z, rfl, z0, z2⟩ : ∃ z : Int, y = .int z ∧ 0 ≤ z ∧ z ≤ 2 := by
          have m := List.mem_of_getElem? hj
          simp only [List.mem_cons, List.not_mem_nil, or_false] at m
          rcases m with rfl | rfl | rfl | rfl
          · exact ⟨0, rfl, by decide, by decide⟩
          · exact ⟨1, rfl, by decide, by decide⟩
          · exact ⟨2, rfl, by decide, by decide⟩
          · exact ⟨0, rfl, by decide, by decide⟩
        have up9 : ∀ c o, F7 c = some o → F c = some o := fun c o e => s _ _ (s9 _ _ e)
        refine ⟨_, rfl, _, rfl, _, rfl, F, ot, z, nb, true, rfl, g.fh, z0, z2, nb0, .inr ⟨rfl, N, Is.up hot up9, hN⟩, fun Fa Ua ga => ⟨rfl, _, rfl, ifF (by rw [show wordC true = "machine" from rfl, decide_eq_true rfl]; rfl) ?_⟩⟩
        have upa : ∀ c o, F7 c = some o → Fa c = some o := fun c o e => ga.ff _ _ (up9 c o e)
        refine ⟨_, rfl, _, rfl, _, rfl, Fa, hd, z, nb, false, rfl, ga.fh, z0, z2, nb0, .inl ⟨rfl, M, R, S, Is.up hhd7 upa, hM⟩, fun Fb Ub gb => ⟨rfl, _, rfl, ifF (by rw [show wordC false = "none" from rfl, decide_eq_true rfl]; rfl) ?_⟩⟩
        exact ⟨Fb, _, rfl, (g.trans ga.of0).trans gb.of0, fun c o e => gb.ff _ _ (ga.ff _ _ (s _ _ e))⟩
      · rintro σ U ⟨F, v8, rfl, g, s⟩
        have up9 : ∀ c o, F7 c = some o → U c = some o := fun c o e => g.fh _ _ (s _ _ (s9 _ _ e))
        refine ⟨_, rfl, _, rfl, ne_dat (a := M) (b := M) (Is.up hhd7 up9) (Is.up hv7 up9) ⟨_, rfl, ifF (by rw [decide_eq_true rfl]; rfl) ?_⟩⟩
        refine ⟨_, rfl, _, rfl, ne_dat (a := N) (b := N) (Is.up hot up9) (Is.up hbt7 up9) ⟨_, rfl, ifF (by rw [decide_eq_true rfl]; rfl) ?_⟩⟩
        exact ⟨_, _, _, _, _, _, _, _, rfl, fun c o h => g.fh c o (g.ff c o (sG c o h))⟩
    · rintro σ G _
      exact q G

end
def all_tx {K : PySem.W.Frag} {h : Heap} {mg : Str → Option Value} {a_L_at a_L_purse a_L_mixed a_L_draw a_L_entry a_L_machine a_L_kept a_L_bent a_L_class a_is_entry a_is_machine a_must_machine a_most_setups a_through a_Walk_init a_Walk_out a_Walk_place a_Walk_strip a_Walk_block a_by_blocks a_Strip_init a_Strip_told a_put_run a_taken a_Strip_stride a_Strip_step a_by_strides a_L_caught a_law C_Full C_NoDeed C_NoMachine C_NoName C_NoPaper C_NoSize C_NoSuch C_NoText C_NoWidth C_Twice C_Walk C_Strip C_MillError : Addr} {od_L_at an_L_at od_L_purse an_L_purse od_L_mixed an_L_mixed od_L_draw an_L_draw od_L_entry an_L_entry od_L_machine an_L_machine od_L_kept an_L_kept od_L_bent an_L_bent od_L_class an_L_class od_is_entry an_is_entry od_is_machine an_is_machine od_must_machine an_must_machine od_most_setups an_most_setups od_through an_through od_Walk_init an_Walk_init od_Walk_out an_Walk_out od_Walk_place an_Walk_place od_Walk_strip an_Walk_strip od_Walk_block an_Walk_block od_by_blocks an_by_blocks od_Strip_init an_Strip_init od_Strip_told an_Strip_told od_put_run an_put_run od_taken an_taken od_Strip_stride an_Strip_stride od_Strip_step an_Strip_step od_by_strides an_by_strides od_L_caught an_L_caught od_law an_law : Option Addr} {sl_L_at sl_L_purse sl_L_mixed sl_L_draw sl_L_entry sl_L_machine sl_L_kept sl_L_bent sl_L_class sl_is_entry sl_is_machine sl_must_machine sl_most_setups sl_through sl_Walk_init sl_Walk_out sl_Walk_place sl_Walk_strip sl_Walk_block sl_by_blocks sl_Strip_init sl_Strip_told sl_put_run sl_taken sl_Strip_stride sl_Strip_step sl_by_strides sl_L_caught sl_law : Array (Option Value)} {oc_L_at kV_L_at dc_L_at pm_L_at cd_L_at ct_L_at oc_L_purse kV_L_purse dc_L_purse pm_L_purse cd_L_purse ct_L_purse oc_L_mixed kV_L_mixed dc_L_mixed pm_L_mixed cd_L_mixed ct_L_mixed oc_L_draw kV_L_draw dc_L_draw pm_L_draw cd_L_draw ct_L_draw oc_L_entry kV_L_entry dc_L_entry pm_L_entry cd_L_entry ct_L_entry oc_L_machine kV_L_machine dc_L_machine pm_L_machine cd_L_machine ct_L_machine oc_L_kept kV_L_kept dc_L_kept pm_L_kept cd_L_kept ct_L_kept oc_L_bent kV_L_bent dc_L_bent pm_L_bent cd_L_bent ct_L_bent oc_L_class kV_L_class dc_L_class pm_L_class cd_L_class ct_L_class oc_is_entry kV_is_entry dc_is_entry pm_is_entry cd_is_entry ct_is_entry oc_is_machine kV_is_machine dc_is_machine pm_is_machine cd_is_machine ct_is_machine oc_must_machine kV_must_machine dc_must_machine pm_must_machine cd_must_machine ct_must_machine oc_most_setups kV_most_setups dc_most_setups pm_most_setups cd_most_setups ct_most_setups oc_through kV_through dc_through pm_through cd_through ct_through oc_Walk_init kV_Walk_init dc_Walk_init pm_Walk_init cd_Walk_init ct_Walk_init oc_Walk_out kV_Walk_out dc_Walk_out pm_Walk_out cd_Walk_out ct_Walk_out oc_Walk_place kV_Walk_place dc_Walk_place pm_Walk_place cd_Walk_place ct_Walk_place oc_Walk_strip kV_Walk_strip dc_Walk_strip pm_Walk_strip cd_Walk_strip ct_Walk_strip oc_Walk_block kV_Walk_block dc_Walk_block pm_Walk_block cd_Walk_block ct_Walk_block oc_by_blocks kV_by_blocks dc_by_blocks pm_by_blocks cd_by_blocks ct_by_blocks oc_Strip_init kV_Strip_init dc_Strip_init pm_Strip_init cd_Strip_init ct_Strip_init oc_Strip_told kV_Strip_told dc_Strip_told pm_Strip_told cd_Strip_told ct_Strip_told oc_put_run kV_put_run dc_put_run pm_put_run cd_put_run ct_put_run oc_taken kV_taken dc_taken pm_taken cd_taken ct_taken oc_Strip_stride kV_Strip_stride dc_Strip_stride pm_Strip_stride cd_Strip_stride ct_Strip_stride oc_Strip_step kV_Strip_step dc_Strip_step pm_Strip_step cd_Strip_step ct_Strip_step oc_by_strides kV_by_strides dc_by_strides pm_by_strides cd_by_strides ct_by_strides oc_L_caught kV_L_caught dc_L_caught pm_L_caught cd_L_caught ct_L_caught oc_law kV_law dc_law pm_law cd_law ct_law : Value} {tk_MOST_ROWS tk_MOST_SIGNS : Tok} (X : K.In h) (G : h.Ns mainGlobals mg)
    (n_Full : PySem.W.nsIn K mainGlobals "Full" = some (some (.ref C_Full)))
    (n_NoDeed : PySem.W.nsIn K mainGlobals "NoDeed" = some (some (.ref C_NoDeed)))
    (n_NoMachine : PySem.W.nsIn K mainGlobals "NoMachine" = some (some (.ref C_NoMachine)))
    (n_NoName : PySem.W.nsIn K mainGlobals "NoName" = some (some (.ref C_NoName)))
    (n_NoPaper : PySem.W.nsIn K mainGlobals "NoPaper" = some (some (.ref C_NoPaper)))
    (n_NoSize : PySem.W.nsIn K mainGlobals "NoSize" = some (some (.ref C_NoSize)))
    (n_NoSuch : PySem.W.nsIn K mainGlobals "NoSuch" = some (some (.ref C_NoSuch)))
    (n_NoText : PySem.W.nsIn K mainGlobals "NoText" = some (some (.ref C_NoText)))
    (n_NoWidth : PySem.W.nsIn K mainGlobals "NoWidth" = some (some (.ref C_NoWidth)))
    (n_Twice : PySem.W.nsIn K mainGlobals "Twice" = some (some (.ref C_Twice)))
    (n_Walk : PySem.W.nsIn K mainGlobals "Walk" = some (some (.ref C_Walk)))
    (n_Strip : PySem.W.nsIn K mainGlobals "Strip" = some (some (.ref C_Strip)))
    (n_MillError : PySem.W.nsIn K mainGlobals "MillError" = some (some (.ref C_MillError)))
    (n_L_at : PySem.W.nsIn K mainGlobals "_law_at" = some (some (.ref a_L_at)))
    (l_L_at : K.lookup a_L_at = some ⟨oc_L_at, od_L_at, .func (PySem.W.fnOf "_law_at" "_law_at" (defArgs s_L_at) (defBody s_L_at) (defScope s_L_at) .none kV_L_at dc_L_at pm_L_at an_L_at cd_L_at ct_L_at), sl_L_at⟩)
    (c_L_at : PySem.W.codeIn K cd_L_at "_law_at" = true)
    (k_L_at : PySem.W.keepIn K (.ref a_L_at) = true)
    (n_L_purse : PySem.W.nsIn K mainGlobals "_law_purse" = some (some (.ref a_L_purse)))
    (l_L_purse : K.lookup a_L_purse = some ⟨oc_L_purse, od_L_purse, .func (PySem.W.fnOf "_law_purse" "_law_purse" (defArgs s_L_purse) (defBody s_L_purse) (defScope s_L_purse) .none kV_L_purse dc_L_purse pm_L_purse an_L_purse cd_L_purse ct_L_purse), sl_L_purse⟩)
    (c_L_purse : PySem.W.codeIn K cd_L_purse "_law_purse" = true)
    (k_L_purse : PySem.W.keepIn K (.ref a_L_purse) = true)
    (n_L_mixed : PySem.W.nsIn K mainGlobals "_law_mixed" = some (some (.ref a_L_mixed)))
    (l_L_mixed : K.lookup a_L_mixed = some ⟨oc_L_mixed, od_L_mixed, .func (PySem.W.fnOf "_law_mixed" "_law_mixed" (defArgs s_L_mixed) (defBody s_L_mixed) (defScope s_L_mixed) .none kV_L_mixed dc_L_mixed pm_L_mixed an_L_mixed cd_L_mixed ct_L_mixed), sl_L_mixed⟩)
    (c_L_mixed : PySem.W.codeIn K cd_L_mixed "_law_mixed" = true)
    (k_L_mixed : PySem.W.keepIn K (.ref a_L_mixed) = true)
    (n_L_draw : PySem.W.nsIn K mainGlobals "_law_draw" = some (some (.ref a_L_draw)))
    (l_L_draw : K.lookup a_L_draw = some ⟨oc_L_draw, od_L_draw, .func (PySem.W.fnOf "_law_draw" "_law_draw" (defArgs s_L_draw) (defBody s_L_draw) (defScope s_L_draw) .none kV_L_draw dc_L_draw pm_L_draw an_L_draw cd_L_draw ct_L_draw), sl_L_draw⟩)
    (c_L_draw : PySem.W.codeIn K cd_L_draw "_law_draw" = true)
    (k_L_draw : PySem.W.keepIn K (.ref a_L_draw) = true)
    (n_L_entry : PySem.W.nsIn K mainGlobals "_law_entry" = some (some (.ref a_L_entry)))
    (l_L_entry : K.lookup a_L_entry = some ⟨oc_L_entry, od_L_entry, .func (PySem.W.fnOf "_law_entry" "_law_entry" (defArgs s_L_entry) (defBody s_L_entry) (defScope s_L_entry) .none kV_L_entry dc_L_entry pm_L_entry an_L_entry cd_L_entry ct_L_entry), sl_L_entry⟩)
    (c_L_entry : PySem.W.codeIn K cd_L_entry "_law_entry" = true)
    (k_L_entry : PySem.W.keepIn K (.ref a_L_entry) = true)
    (n_L_machine : PySem.W.nsIn K mainGlobals "_law_machine" = some (some (.ref a_L_machine)))
    (l_L_machine : K.lookup a_L_machine = some ⟨oc_L_machine, od_L_machine, .func (PySem.W.fnOf "_law_machine" "_law_machine" (defArgs s_L_machine) (defBody s_L_machine) (defScope s_L_machine) .none kV_L_machine dc_L_machine pm_L_machine an_L_machine cd_L_machine ct_L_machine), sl_L_machine⟩)
    (c_L_machine : PySem.W.codeIn K cd_L_machine "_law_machine" = true)
    (k_L_machine : PySem.W.keepIn K (.ref a_L_machine) = true)
    (n_L_kept : PySem.W.nsIn K mainGlobals "_law_kept" = some (some (.ref a_L_kept)))
    (l_L_kept : K.lookup a_L_kept = some ⟨oc_L_kept, od_L_kept, .func (PySem.W.fnOf "_law_kept" "_law_kept" (defArgs s_L_kept) (defBody s_L_kept) (defScope s_L_kept) .none kV_L_kept dc_L_kept pm_L_kept an_L_kept cd_L_kept ct_L_kept), sl_L_kept⟩)
    (c_L_kept : PySem.W.codeIn K cd_L_kept "_law_kept" = true)
    (k_L_kept : PySem.W.keepIn K (.ref a_L_kept) = true)
    (n_L_bent : PySem.W.nsIn K mainGlobals "_law_bent" = some (some (.ref a_L_bent)))
    (l_L_bent : K.lookup a_L_bent = some ⟨oc_L_bent, od_L_bent, .func (PySem.W.fnOf "_law_bent" "_law_bent" (defArgs s_L_bent) (defBody s_L_bent) (defScope s_L_bent) .none kV_L_bent dc_L_bent pm_L_bent an_L_bent cd_L_bent ct_L_bent), sl_L_bent⟩)
    (c_L_bent : PySem.W.codeIn K cd_L_bent "_law_bent" = true)
    (k_L_bent : PySem.W.keepIn K (.ref a_L_bent) = true)
    (n_L_class : PySem.W.nsIn K mainGlobals "_law_class" = some (some (.ref a_L_class)))
    (l_L_class : K.lookup a_L_class = some ⟨oc_L_class, od_L_class, .func (PySem.W.fnOf "_law_class" "_law_class" (defArgs s_L_class) (defBody s_L_class) (defScope s_L_class) .none kV_L_class dc_L_class pm_L_class an_L_class cd_L_class ct_L_class), sl_L_class⟩)
    (c_L_class : PySem.W.codeIn K cd_L_class "_law_class" = true)
    (k_L_class : PySem.W.keepIn K (.ref a_L_class) = true)
    (n_is_entry : PySem.W.nsIn K mainGlobals "is_entry" = some (some (.ref a_is_entry)))
    (l_is_entry : K.lookup a_is_entry = some ⟨oc_is_entry, od_is_entry, .func (PySem.W.fnOf "is_entry" "is_entry" (defArgs s_is_entry) (defBody s_is_entry) (defScope s_is_entry) .none kV_is_entry dc_is_entry pm_is_entry an_is_entry cd_is_entry ct_is_entry), sl_is_entry⟩)
    (c_is_entry : PySem.W.codeIn K cd_is_entry "is_entry" = true)
    (k_is_entry : PySem.W.keepIn K (.ref a_is_entry) = true)
    (n_is_machine : PySem.W.nsIn K mainGlobals "is_machine" = some (some (.ref a_is_machine)))
    (l_is_machine : K.lookup a_is_machine = some ⟨oc_is_machine, od_is_machine, .func (PySem.W.fnOf "is_machine" "is_machine" (defArgs s_is_machine) (defBody s_is_machine) (defScope s_is_machine) .none kV_is_machine dc_is_machine pm_is_machine an_is_machine cd_is_machine ct_is_machine), sl_is_machine⟩)
    (c_is_machine : PySem.W.codeIn K cd_is_machine "is_machine" = true)
    (k_is_machine : PySem.W.keepIn K (.ref a_is_machine) = true)
    (n_must_machine : PySem.W.nsIn K mainGlobals "must_machine" = some (some (.ref a_must_machine)))
    (l_must_machine : K.lookup a_must_machine = some ⟨oc_must_machine, od_must_machine, .func (PySem.W.fnOf "must_machine" "must_machine" (defArgs s_must_machine) (defBody s_must_machine) (defScope s_must_machine) .none kV_must_machine dc_must_machine pm_must_machine an_must_machine cd_must_machine ct_must_machine), sl_must_machine⟩)
    (c_must_machine : PySem.W.codeIn K cd_must_machine "must_machine" = true)
    (k_must_machine : PySem.W.keepIn K (.ref a_must_machine) = true)
    (n_most_setups : PySem.W.nsIn K mainGlobals "most_setups" = some (some (.ref a_most_setups)))
    (l_most_setups : K.lookup a_most_setups = some ⟨oc_most_setups, od_most_setups, .func (PySem.W.fnOf "most_setups" "most_setups" (defArgs s_most_setups) (defBody s_most_setups) (defScope s_most_setups) .none kV_most_setups dc_most_setups pm_most_setups an_most_setups cd_most_setups ct_most_setups), sl_most_setups⟩)
    (c_most_setups : PySem.W.codeIn K cd_most_setups "most_setups" = true)
    (k_most_setups : PySem.W.keepIn K (.ref a_most_setups) = true)
    (n_through : PySem.W.nsIn K mainGlobals "through" = some (some (.ref a_through)))
    (l_through : K.lookup a_through = some ⟨oc_through, od_through, .func (PySem.W.fnOf "through" "through" (defArgs s_through) (defBody s_through) (defScope s_through) .none kV_through dc_through pm_through an_through cd_through ct_through), sl_through⟩)
    (c_through : PySem.W.codeIn K cd_through "through" = true)
    (k_through : PySem.W.keepIn K (.ref a_through) = true)
    (n_Walk_init : PySem.W.findIn K (.ref C_Walk) "__init__" = some (some (.ref a_Walk_init)))
    (i_Walk_init : PySem.W.isFn K (.ref a_Walk_init) = true)
    (l_Walk_init : K.lookup a_Walk_init = some ⟨oc_Walk_init, od_Walk_init, .func (PySem.W.fnOf "__init__" "Walk.__init__" (defArgs s_Walk_init) (defBody s_Walk_init) (defScope s_Walk_init) .none kV_Walk_init dc_Walk_init pm_Walk_init an_Walk_init cd_Walk_init ct_Walk_init), sl_Walk_init⟩)
    (c_Walk_init : PySem.W.codeIn K cd_Walk_init "Walk.__init__" = true)
    (k_Walk_init : PySem.W.keepIn K (.ref a_Walk_init) = true)
    (n_Walk_out : PySem.W.findIn K (.ref C_Walk) "out" = some (some (.ref a_Walk_out)))
    (i_Walk_out : PySem.W.isFn K (.ref a_Walk_out) = true)
    (l_Walk_out : K.lookup a_Walk_out = some ⟨oc_Walk_out, od_Walk_out, .func (PySem.W.fnOf "out" "Walk.out" (defArgs s_Walk_out) (defBody s_Walk_out) (defScope s_Walk_out) .none kV_Walk_out dc_Walk_out pm_Walk_out an_Walk_out cd_Walk_out ct_Walk_out), sl_Walk_out⟩)
    (c_Walk_out : PySem.W.codeIn K cd_Walk_out "Walk.out" = true)
    (k_Walk_out : PySem.W.keepIn K (.ref a_Walk_out) = true)
    (n_Walk_place : PySem.W.findIn K (.ref C_Walk) "place" = some (some (.ref a_Walk_place)))
    (i_Walk_place : PySem.W.isFn K (.ref a_Walk_place) = true)
    (l_Walk_place : K.lookup a_Walk_place = some ⟨oc_Walk_place, od_Walk_place, .func (PySem.W.fnOf "place" "Walk.place" (defArgs s_Walk_place) (defBody s_Walk_place) (defScope s_Walk_place) .none kV_Walk_place dc_Walk_place pm_Walk_place an_Walk_place cd_Walk_place ct_Walk_place), sl_Walk_place⟩)
    (c_Walk_place : PySem.W.codeIn K cd_Walk_place "Walk.place" = true)
    (k_Walk_place : PySem.W.keepIn K (.ref a_Walk_place) = true)
    (n_Walk_strip : PySem.W.findIn K (.ref C_Walk) "strip" = some (some (.ref a_Walk_strip)))
    (i_Walk_strip : PySem.W.isFn K (.ref a_Walk_strip) = true)
    (l_Walk_strip : K.lookup a_Walk_strip = some ⟨oc_Walk_strip, od_Walk_strip, .func (PySem.W.fnOf "strip" "Walk.strip" (defArgs s_Walk_strip) (defBody s_Walk_strip) (defScope s_Walk_strip) .none kV_Walk_strip dc_Walk_strip pm_Walk_strip an_Walk_strip cd_Walk_strip ct_Walk_strip), sl_Walk_strip⟩)
    (c_Walk_strip : PySem.W.codeIn K cd_Walk_strip "Walk.strip" = true)
    (k_Walk_strip : PySem.W.keepIn K (.ref a_Walk_strip) = true)
    (n_Walk_block : PySem.W.findIn K (.ref C_Walk) "block" = some (some (.ref a_Walk_block)))
    (i_Walk_block : PySem.W.isFn K (.ref a_Walk_block) = true)
    (l_Walk_block : K.lookup a_Walk_block = some ⟨oc_Walk_block, od_Walk_block, .func (PySem.W.fnOf "block" "Walk.block" (defArgs s_Walk_block) (defBody s_Walk_block) (defScope s_Walk_block) .none kV_Walk_block dc_Walk_block pm_Walk_block an_Walk_block cd_Walk_block ct_Walk_block), sl_Walk_block⟩)
    (c_Walk_block : PySem.W.codeIn K cd_Walk_block "Walk.block" = true)
    (k_Walk_block : PySem.W.keepIn K (.ref a_Walk_block) = true)
    (n_by_blocks : PySem.W.nsIn K mainGlobals "by_blocks" = some (some (.ref a_by_blocks)))
    (l_by_blocks : K.lookup a_by_blocks = some ⟨oc_by_blocks, od_by_blocks, .func (PySem.W.fnOf "by_blocks" "by_blocks" (defArgs s_by_blocks) (defBody s_by_blocks) (defScope s_by_blocks) .none kV_by_blocks dc_by_blocks pm_by_blocks an_by_blocks cd_by_blocks ct_by_blocks), sl_by_blocks⟩)
    (c_by_blocks : PySem.W.codeIn K cd_by_blocks "by_blocks" = true)
    (k_by_blocks : PySem.W.keepIn K (.ref a_by_blocks) = true)
    (n_Strip_init : PySem.W.findIn K (.ref C_Strip) "__init__" = some (some (.ref a_Strip_init)))
    (i_Strip_init : PySem.W.isFn K (.ref a_Strip_init) = true)
    (l_Strip_init : K.lookup a_Strip_init = some ⟨oc_Strip_init, od_Strip_init, .func (PySem.W.fnOf "__init__" "Strip.__init__" (defArgs s_Strip_init) (defBody s_Strip_init) (defScope s_Strip_init) .none kV_Strip_init dc_Strip_init pm_Strip_init an_Strip_init cd_Strip_init ct_Strip_init), sl_Strip_init⟩)
    (c_Strip_init : PySem.W.codeIn K cd_Strip_init "Strip.__init__" = true)
    (k_Strip_init : PySem.W.keepIn K (.ref a_Strip_init) = true)
    (n_Strip_told : PySem.W.findIn K (.ref C_Strip) "told" = some (some (.ref a_Strip_told)))
    (i_Strip_told : PySem.W.isFn K (.ref a_Strip_told) = true)
    (l_Strip_told : K.lookup a_Strip_told = some ⟨oc_Strip_told, od_Strip_told, .func (PySem.W.fnOf "told" "Strip.told" (defArgs s_Strip_told) (defBody s_Strip_told) (defScope s_Strip_told) .none kV_Strip_told dc_Strip_told pm_Strip_told an_Strip_told cd_Strip_told ct_Strip_told), sl_Strip_told⟩)
    (c_Strip_told : PySem.W.codeIn K cd_Strip_told "Strip.told" = true)
    (k_Strip_told : PySem.W.keepIn K (.ref a_Strip_told) = true)
    (n_put_run : PySem.W.nsIn K mainGlobals "put_run" = some (some (.ref a_put_run)))
    (l_put_run : K.lookup a_put_run = some ⟨oc_put_run, od_put_run, .func (PySem.W.fnOf "put_run" "put_run" (defArgs s_put_run) (defBody s_put_run) (defScope s_put_run) .none kV_put_run dc_put_run pm_put_run an_put_run cd_put_run ct_put_run), sl_put_run⟩)
    (c_put_run : PySem.W.codeIn K cd_put_run "put_run" = true)
    (k_put_run : PySem.W.keepIn K (.ref a_put_run) = true)
    (n_taken : PySem.W.nsIn K mainGlobals "taken" = some (some (.ref a_taken)))
    (l_taken : K.lookup a_taken = some ⟨oc_taken, od_taken, .func (PySem.W.fnOf "taken" "taken" (defArgs s_taken) (defBody s_taken) (defScope s_taken) .none kV_taken dc_taken pm_taken an_taken cd_taken ct_taken), sl_taken⟩)
    (c_taken : PySem.W.codeIn K cd_taken "taken" = true)
    (k_taken : PySem.W.keepIn K (.ref a_taken) = true)
    (n_Strip_stride : PySem.W.findIn K (.ref C_Strip) "stride" = some (some (.ref a_Strip_stride)))
    (i_Strip_stride : PySem.W.isFn K (.ref a_Strip_stride) = true)
    (l_Strip_stride : K.lookup a_Strip_stride = some ⟨oc_Strip_stride, od_Strip_stride, .func (PySem.W.fnOf "stride" "Strip.stride" (defArgs s_Strip_stride) (defBody s_Strip_stride) (defScope s_Strip_stride) .none kV_Strip_stride dc_Strip_stride pm_Strip_stride an_Strip_stride cd_Strip_stride ct_Strip_stride), sl_Strip_stride⟩)
    (c_Strip_stride : PySem.W.codeIn K cd_Strip_stride "Strip.stride" = true)
    (k_Strip_stride : PySem.W.keepIn K (.ref a_Strip_stride) = true)
    (n_Strip_step : PySem.W.findIn K (.ref C_Strip) "step" = some (some (.ref a_Strip_step)))
    (i_Strip_step : PySem.W.isFn K (.ref a_Strip_step) = true)
    (l_Strip_step : K.lookup a_Strip_step = some ⟨oc_Strip_step, od_Strip_step, .func (PySem.W.fnOf "step" "Strip.step" (defArgs s_Strip_step) (defBody s_Strip_step) (defScope s_Strip_step) .none kV_Strip_step dc_Strip_step pm_Strip_step an_Strip_step cd_Strip_step ct_Strip_step), sl_Strip_step⟩)
    (c_Strip_step : PySem.W.codeIn K cd_Strip_step "Strip.step" = true)
    (k_Strip_step : PySem.W.keepIn K (.ref a_Strip_step) = true)
    (n_by_strides : PySem.W.nsIn K mainGlobals "by_strides" = some (some (.ref a_by_strides)))
    (l_by_strides : K.lookup a_by_strides = some ⟨oc_by_strides, od_by_strides, .func (PySem.W.fnOf "by_strides" "by_strides" (defArgs s_by_strides) (defBody s_by_strides) (defScope s_by_strides) .none kV_by_strides dc_by_strides pm_by_strides an_by_strides cd_by_strides ct_by_strides), sl_by_strides⟩)
    (c_by_strides : PySem.W.codeIn K cd_by_strides "by_strides" = true)
    (k_by_strides : PySem.W.keepIn K (.ref a_by_strides) = true)
    (n_L_caught : PySem.W.nsIn K mainGlobals "_law_caught" = some (some (.ref a_L_caught)))
    (l_L_caught : K.lookup a_L_caught = some ⟨oc_L_caught, od_L_caught, .func (PySem.W.fnOf "_law_caught" "_law_caught" (defArgs s_L_caught) (defBody s_L_caught) (defScope s_L_caught) .none kV_L_caught dc_L_caught pm_L_caught an_L_caught cd_L_caught ct_L_caught), sl_L_caught⟩)
    (c_L_caught : PySem.W.codeIn K cd_L_caught "_law_caught" = true)
    (k_L_caught : PySem.W.keepIn K (.ref a_L_caught) = true)
    (n_law : PySem.W.nsIn K mainGlobals "law" = some (some (.ref a_law)))
    (l_law : K.lookup a_law = some ⟨oc_law, od_law, .func (PySem.W.fnOf "law" "law" (defArgs s_law) (defBody s_law) (defScope s_law) .none kV_law dc_law pm_law an_law cd_law ct_law), sl_law⟩)
    (c_law : PySem.W.codeIn K cd_law "law" = true)
    (k_law : PySem.W.keepIn K (.ref a_law) = true)
    (pg_Walk : PySem.W.plainGet K C_Walk Str.empty = true)
    (hd_Walk : PySem.W.hasDictIn K C_Walk = true)
    (po_Walk : PySem.W.plainOver K C_Walk = true)
    (sa_Walk : PySem.W.findIn K (.ref C_Walk) "__setattr__" = some (some (.builtin "object.__setattr__")))
    (mk_Walk : PySem.W.makesIn K C_Walk = true)
    (kc_Walk : PySem.W.keepIn K (.ref C_Walk) = true)
    (f_Walk_long : PySem.W.findIn K (.ref C_Walk) "long" = some none)
    (f_Walk_blocks : PySem.W.findIn K (.ref C_Walk) "blocks" = some none)
    (f_Walk_at : PySem.W.findIn K (.ref C_Walk) "at" = some none)
    (f_Walk_row : PySem.W.findIn K (.ref C_Walk) "row" = some none)
    (f_Walk_side : PySem.W.findIn K (.ref C_Walk) "side" = some none)
    (f_Walk_steps : PySem.W.findIn K (.ref C_Walk) "steps" = some none)
    (pg_Strip : PySem.W.plainGet K C_Strip Str.empty = true)
    (hd_Strip : PySem.W.hasDictIn K C_Strip = true)
    (po_Strip : PySem.W.plainOver K C_Strip = true)
    (sa_Strip : PySem.W.findIn K (.ref C_Strip) "__setattr__" = some (some (.builtin "object.__setattr__")))
    (mk_Strip : PySem.W.makesIn K C_Strip = true)
    (kc_Strip : PySem.W.keepIn K (.ref C_Strip) = true)
    (f_Strip_sides : PySem.W.findIn K (.ref C_Strip) "sides" = some none)
    (f_Strip_sign : PySem.W.findIn K (.ref C_Strip) "sign" = some none)
    (f_Strip_row : PySem.W.findIn K (.ref C_Strip) "row" = some none)
    (f_Strip_steps : PySem.W.findIn K (.ref C_Strip) "steps" = some none)
    (n_MOST_ROWS : PySem.W.nsIn K mainGlobals "MOST_ROWS" = some (some (.int 4 tk_MOST_ROWS)))
    (n_MOST_SIGNS : PySem.W.nsIn K mainGlobals "MOST_SIGNS" = some (some (.int 4 tk_MOST_SIGNS)))
    (z_len : PySem.W.nsIn K mainGlobals "len" = some none)
    (z_max : PySem.W.nsIn K mainGlobals "max" = some none)
    (z_int : PySem.W.nsIn K mainGlobals "int" = some none)
    (z_range : PySem.W.nsIn K mainGlobals "range" = some none)
    (z_list : PySem.W.nsIn K mainGlobals "list" = some none)
    (z_isinstance : PySem.W.nsIn K mainGlobals "isinstance" = some none)
    (z_ValueError : PySem.W.nsIn K mainGlobals "ValueError" = some none)
    (z_all : PySem.W.nsIn K mainGlobals "all" = some none)
    (z_tuple : PySem.W.nsIn K mainGlobals "tuple" = some none)
    (z_sorted : PySem.W.nsIn K mainGlobals "sorted" = some none)
    (z_enumerate : PySem.W.nsIn K mainGlobals "enumerate" = some none)
    (fa_x_NoMachine : PySem.W.excIn K C_NoMachine [.type "ValueError", .type "Exception", .type "BaseException", .type "object"] "ValueError.__new__" = true)
    (fa_k_NoMachine : PySem.W.keepIn K (.ref C_NoMachine) = true)
    (fa_b_NoMachine : PySem.W.subIn K (.ref C_NoMachine) (.type "BaseException") = some true)
    (fa_t_NoMachine : PySem.W.typeIn K (.ref C_NoMachine) = some (.type "type"))
    (fa_h_NoMachine : PySem.W.hasDictIn K C_NoMachine = true)
    (fa_k_MillError : PySem.W.keepIn K (.ref C_MillError) = true)
    (fa_b_MillError : PySem.W.subIn K (.ref C_MillError) (.type "BaseException") = some true)
    (fa_t_MillError : PySem.W.typeIn K (.ref C_MillError) = some (.type "type"))
    (fa_h_MillError : PySem.W.hasDictIn K C_MillError = true)
    (fa_hg_NoMachine : PySem.W.findIn K (.ref C_NoMachine) "__getattribute__" = some (some (.builtin "BaseException.__getattribute__")))
    (fa_hk_NoMachine : PySem.W.findIn K (.ref C_NoMachine) "__getattr__" = some none)
    (fa_ha_NoMachine : PySem.W.findIn K (.ref C_NoMachine) "__class__" = some (some (.builtin "object.__class__")))
    (fa_hm_NoMachine : PySem.W.mroIn K C_NoMachine (.type "object") = some true)
    (fa_s_NoMachine_MillError : PySem.W.subIn K (.ref C_NoMachine) (.ref C_MillError) = some true)
    (fa_hn_ : PySem.W.specialIn K (.builtin "object.__class__") "__get__" = some (some (.builtin "getset_descriptor.__get__")))
    (fa_ht_ : PySem.W.takesIn K (.builtin "object.__class__") = some true)
    (fa_i_Full : PySem.W.isClsIn K C_Full = true)
    (fa_se_Full : PySem.W.subIn K (.ref C_Full) (.ref C_Full) = some true)
    (fa_t_Full : PySem.W.typeIn K (.ref C_Full) = some (.type "type"))
    (fa_s_NoMachine_Full : PySem.W.subIn K (.ref C_NoMachine) (.ref C_Full) = some false)
    (fa_sn_Full : PySem.W.subIn K (.type "NoneType") (.ref C_Full) = some false)
    (fa_i_NoDeed : PySem.W.isClsIn K C_NoDeed = true)
    (fa_se_NoDeed : PySem.W.subIn K (.ref C_NoDeed) (.ref C_NoDeed) = some true)
    (fa_t_NoDeed : PySem.W.typeIn K (.ref C_NoDeed) = some (.type "type"))
    (fa_s_NoMachine_NoDeed : PySem.W.subIn K (.ref C_NoMachine) (.ref C_NoDeed) = some false)
    (fa_sn_NoDeed : PySem.W.subIn K (.type "NoneType") (.ref C_NoDeed) = some false)
    (fa_i_NoMachine : PySem.W.isClsIn K C_NoMachine = true)
    (fa_se_NoMachine : PySem.W.subIn K (.ref C_NoMachine) (.ref C_NoMachine) = some true)
    (fa_s_NoMachine_NoMachine : PySem.W.subIn K (.ref C_NoMachine) (.ref C_NoMachine) = some true)
    (fa_sn_NoMachine : PySem.W.subIn K (.type "NoneType") (.ref C_NoMachine) = some false)
    (fa_i_NoName : PySem.W.isClsIn K C_NoName = true)
    (fa_se_NoName : PySem.W.subIn K (.ref C_NoName) (.ref C_NoName) = some true)
    (fa_t_NoName : PySem.W.typeIn K (.ref C_NoName) = some (.type "type"))
    (fa_s_NoMachine_NoName : PySem.W.subIn K (.ref C_NoMachine) (.ref C_NoName) = some false)
    (fa_sn_NoName : PySem.W.subIn K (.type "NoneType") (.ref C_NoName) = some false)
    (fa_i_NoPaper : PySem.W.isClsIn K C_NoPaper = true)
    (fa_se_NoPaper : PySem.W.subIn K (.ref C_NoPaper) (.ref C_NoPaper) = some true)
    (fa_t_NoPaper : PySem.W.typeIn K (.ref C_NoPaper) = some (.type "type"))
    (fa_s_NoMachine_NoPaper : PySem.W.subIn K (.ref C_NoMachine) (.ref C_NoPaper) = some false)
    (fa_sn_NoPaper : PySem.W.subIn K (.type "NoneType") (.ref C_NoPaper) = some false)
    (fa_i_NoSize : PySem.W.isClsIn K C_NoSize = true)
    (fa_se_NoSize : PySem.W.subIn K (.ref C_NoSize) (.ref C_NoSize) = some true)
    (fa_t_NoSize : PySem.W.typeIn K (.ref C_NoSize) = some (.type "type"))
    (fa_s_NoMachine_NoSize : PySem.W.subIn K (.ref C_NoMachine) (.ref C_NoSize) = some false)
    (fa_sn_NoSize : PySem.W.subIn K (.type "NoneType") (.ref C_NoSize) = some false)
    (fa_i_NoSuch : PySem.W.isClsIn K C_NoSuch = true)
    (fa_se_NoSuch : PySem.W.subIn K (.ref C_NoSuch) (.ref C_NoSuch) = some true)
    (fa_t_NoSuch : PySem.W.typeIn K (.ref C_NoSuch) = some (.type "type"))
    (fa_s_NoMachine_NoSuch : PySem.W.subIn K (.ref C_NoMachine) (.ref C_NoSuch) = some false)
    (fa_sn_NoSuch : PySem.W.subIn K (.type "NoneType") (.ref C_NoSuch) = some false)
    (fa_i_NoText : PySem.W.isClsIn K C_NoText = true)
    (fa_se_NoText : PySem.W.subIn K (.ref C_NoText) (.ref C_NoText) = some true)
    (fa_t_NoText : PySem.W.typeIn K (.ref C_NoText) = some (.type "type"))
    (fa_s_NoMachine_NoText : PySem.W.subIn K (.ref C_NoMachine) (.ref C_NoText) = some false)
    (fa_sn_NoText : PySem.W.subIn K (.type "NoneType") (.ref C_NoText) = some false)
    (fa_i_NoWidth : PySem.W.isClsIn K C_NoWidth = true)
    (fa_se_NoWidth : PySem.W.subIn K (.ref C_NoWidth) (.ref C_NoWidth) = some true)
    (fa_t_NoWidth : PySem.W.typeIn K (.ref C_NoWidth) = some (.type "type"))
    (fa_s_NoMachine_NoWidth : PySem.W.subIn K (.ref C_NoMachine) (.ref C_NoWidth) = some false)
    (fa_sn_NoWidth : PySem.W.subIn K (.type "NoneType") (.ref C_NoWidth) = some false)
    (fa_i_Twice : PySem.W.isClsIn K C_Twice = true)
    (fa_se_Twice : PySem.W.subIn K (.ref C_Twice) (.ref C_Twice) = some true)
    (fa_t_Twice : PySem.W.typeIn K (.ref C_Twice) = some (.type "type"))
    (fa_s_NoMachine_Twice : PySem.W.subIn K (.ref C_NoMachine) (.ref C_Twice) = some false)
    (fa_sn_Twice : PySem.W.subIn K (.type "NoneType") (.ref C_Twice) = some false)
    (fa_s_NoMachine_ValueError : PySem.W.subIn K (.ref C_NoMachine) (.type "ValueError") = some true) : Tx K mg where
  a_L_at := a_L_at
  fd_L_at := PySem.W.fnOf "_law_at" "_law_at" (defArgs s_L_at) (defBody s_L_at) (defScope s_L_at) .none kV_L_at dc_L_at pm_L_at an_L_at cd_L_at ct_L_at
  F_L_at := fun_mk l_L_at c_L_at k_L_at
  b_L_at := (fun_mk (st := s_L_at) l_L_at c_L_at k_L_at).binds (ps := ["_law_script", "_law_k"]) fun _ _ _ _ _ _ us hl => match us, hl with | [_, _], _ => rfl
  m_L_at := PySem.W.mg_of X G n_L_at
  a_L_purse := a_L_purse
  fd_L_purse := PySem.W.fnOf "_law_purse" "_law_purse" (defArgs s_L_purse) (defBody s_L_purse) (defScope s_L_purse) .none kV_L_purse dc_L_purse pm_L_purse an_L_purse cd_L_purse ct_L_purse
  F_L_purse := fun_mk l_L_purse c_L_purse k_L_purse
  b_L_purse := (fun_mk (st := s_L_purse) l_L_purse c_L_purse k_L_purse).binds (ps := ["_law_script", "_law_at_here"]) fun _ _ _ _ _ _ us hl => match us, hl with | [_, _], _ => rfl
  m_L_purse := PySem.W.mg_of X G n_L_purse
  a_L_mixed := a_L_mixed
  fd_L_mixed := PySem.W.fnOf "_law_mixed" "_law_mixed" (defArgs s_L_mixed) (defBody s_L_mixed) (defScope s_L_mixed) .none kV_L_mixed dc_L_mixed pm_L_mixed an_L_mixed cd_L_mixed ct_L_mixed
  F_L_mixed := fun_mk l_L_mixed c_L_mixed k_L_mixed
  b_L_mixed := (fun_mk (st := s_L_mixed) l_L_mixed c_L_mixed k_L_mixed).binds (ps := ["_law_cell", "_law_k"]) fun _ _ _ _ _ _ us hl => match us, hl with | [_, _], _ => rfl
  m_L_mixed := PySem.W.mg_of X G n_L_mixed
  a_L_draw := a_L_draw
  fd_L_draw := PySem.W.fnOf "_law_draw" "_law_draw" (defArgs s_L_draw) (defBody s_L_draw) (defScope s_L_draw) .none kV_L_draw dc_L_draw pm_L_draw an_L_draw cd_L_draw ct_L_draw
  F_L_draw := fun_mk l_L_draw c_L_draw k_L_draw
  b_L_draw := (fun_mk (st := s_L_draw) l_L_draw c_L_draw k_L_draw).binds (ps := ["_law_purse_here", "_law_out_of"]) fun _ _ _ _ _ _ us hl => match us, hl with | [_, _], _ => rfl
  m_L_draw := PySem.W.mg_of X G n_L_draw
  a_L_entry := a_L_entry
  fd_L_entry := PySem.W.fnOf "_law_entry" "_law_entry" (defArgs s_L_entry) (defBody s_L_entry) (defScope s_L_entry) .none kV_L_entry dc_L_entry pm_L_entry an_L_entry cd_L_entry ct_L_entry
  F_L_entry := fun_mk l_L_entry c_L_entry k_L_entry
  b_L_entry := (fun_mk (st := s_L_entry) l_L_entry c_L_entry k_L_entry).binds (ps := ["_law_purse_here", "_law_rows", "_law_signs", "_law_row", "_law_few"]) fun _ _ _ _ _ _ us hl => match us, hl with | [_, _, _, _, _], _ => rfl
  m_L_entry := PySem.W.mg_of X G n_L_entry
  a_L_machine := a_L_machine
  fd_L_machine := PySem.W.fnOf "_law_machine" "_law_machine" (defArgs s_L_machine) (defBody s_L_machine) (defScope s_L_machine) .none kV_L_machine dc_L_machine pm_L_machine an_L_machine cd_L_machine ct_L_machine
  F_L_machine := fun_mk l_L_machine c_L_machine k_L_machine
  b_L_machine := (fun_mk (st := s_L_machine) l_L_machine c_L_machine k_L_machine).binds (ps := ["_law_purse_here"]) fun _ _ _ _ _ _ us hl => match us, hl with | [_], _ => rfl
  m_L_machine := PySem.W.mg_of X G n_L_machine
  a_L_kept := a_L_kept
  fd_L_kept := PySem.W.fnOf "_law_kept" "_law_kept" (defArgs s_L_kept) (defBody s_L_kept) (defScope s_L_kept) .none kV_L_kept dc_L_kept pm_L_kept an_L_kept cd_L_kept ct_L_kept
  F_L_kept := fun_mk l_L_kept c_L_kept k_L_kept
  b_L_kept := (fun_mk (st := s_L_kept) l_L_kept c_L_kept k_L_kept).binds (ps := ["_law_machine_here"]) fun _ _ _ _ _ _ us hl => match us, hl with | [_], _ => rfl
  m_L_kept := PySem.W.mg_of X G n_L_kept
  a_L_bent := a_L_bent
  fd_L_bent := PySem.W.fnOf "_law_bent" "_law_bent" (defArgs s_L_bent) (defBody s_L_bent) (defScope s_L_bent) .none kV_L_bent dc_L_bent pm_L_bent an_L_bent cd_L_bent ct_L_bent
  F_L_bent := fun_mk l_L_bent c_L_bent k_L_bent
  b_L_bent := (fun_mk (st := s_L_bent) l_L_bent c_L_bent k_L_bent).binds (ps := ["_law_machine_here", "_law_way", "_law_number"]) fun _ _ _ _ _ _ us hl => match us, hl with | [_, _, _], _ => rfl
  m_L_bent := PySem.W.mg_of X G n_L_bent
  a_L_class := a_L_class
  fd_L_class := PySem.W.fnOf "_law_class" "_law_class" (defArgs s_L_class) (defBody s_L_class) (defScope s_L_class) .none kV_L_class dc_L_class pm_L_class an_L_class cd_L_class ct_L_class
  F_L_class := fun_mk l_L_class c_L_class k_L_class
  b_L_class := (fun_mk (st := s_L_class) l_L_class c_L_class k_L_class).binds (ps := ["_law_caught_here"]) fun _ _ _ _ _ _ us hl => match us, hl with | [_], _ => rfl
  m_L_class := PySem.W.mg_of X G n_L_class
  a_is_entry := a_is_entry
  fd_is_entry := PySem.W.fnOf "is_entry" "is_entry" (defArgs s_is_entry) (defBody s_is_entry) (defScope s_is_entry) .none kV_is_entry dc_is_entry pm_is_entry an_is_entry cd_is_entry ct_is_entry
  F_is_entry := fun_mk l_is_entry c_is_entry k_is_entry
  b_is_entry := (fun_mk (st := s_is_entry) l_is_entry c_is_entry k_is_entry).binds (ps := ["entry", "rows", "signs"]) fun _ _ _ _ _ _ us hl => match us, hl with | [_, _, _], _ => rfl
  m_is_entry := PySem.W.mg_of X G n_is_entry
  a_is_machine := a_is_machine
  fd_is_machine := PySem.W.fnOf "is_machine" "is_machine" (defArgs s_is_machine) (defBody s_is_machine) (defScope s_is_machine) .none kV_is_machine dc_is_machine pm_is_machine an_is_machine cd_is_machine ct_is_machine
  F_is_machine := fun_mk l_is_machine c_is_machine k_is_machine
  b_is_machine := (fun_mk (st := s_is_machine) l_is_machine c_is_machine k_is_machine).binds (ps := ["machine"]) fun _ _ _ _ _ _ us hl => match us, hl with | [_], _ => rfl
  m_is_machine := PySem.W.mg_of X G n_is_machine
  a_must_machine := a_must_machine
  fd_must_machine := PySem.W.fnOf "must_machine" "must_machine" (defArgs s_must_machine) (defBody s_must_machine) (defScope s_must_machine) .none kV_must_machine dc_must_machine pm_must_machine an_must_machine cd_must_machine ct_must_machine
  F_must_machine := fun_mk l_must_machine c_must_machine k_must_machine
  b_must_machine := (fun_mk (st := s_must_machine) l_must_machine c_must_machine k_must_machine).binds (ps := ["machine"]) fun _ _ _ _ _ _ us hl => match us, hl with | [_], _ => rfl
  m_must_machine := PySem.W.mg_of X G n_must_machine
  a_most_setups := a_most_setups
  fd_most_setups := PySem.W.fnOf "most_setups" "most_setups" (defArgs s_most_setups) (defBody s_most_setups) (defScope s_most_setups) .none kV_most_setups dc_most_setups pm_most_setups an_most_setups cd_most_setups ct_most_setups
  F_most_setups := fun_mk l_most_setups c_most_setups k_most_setups
  b_most_setups := (fun_mk (st := s_most_setups) l_most_setups c_most_setups k_most_setups).binds (ps := ["machine", "block"]) fun _ _ _ _ _ _ us hl => match us, hl with | [_, _], _ => rfl
  m_most_setups := PySem.W.mg_of X G n_most_setups
  a_through := a_through
  fd_through := PySem.W.fnOf "through" "through" (defArgs s_through) (defBody s_through) (defScope s_through) .none kV_through dc_through pm_through an_through cd_through ct_through
  F_through := fun_mk l_through c_through k_through
  b_through := (fun_mk (st := s_through) l_through c_through k_through).binds (ps := ["machine", "block", "row", "side"]) fun _ _ _ _ _ _ us hl => match us, hl with | [_, _, _, _], _ => rfl
  m_through := PySem.W.mg_of X G n_through
  a_Walk_init := a_Walk_init
  fd_Walk_init := PySem.W.fnOf "__init__" "Walk.__init__" (defArgs s_Walk_init) (defBody s_Walk_init) (defScope s_Walk_init) .none kV_Walk_init dc_Walk_init pm_Walk_init an_Walk_init cd_Walk_init ct_Walk_init
  F_Walk_init := fun_mk l_Walk_init c_Walk_init k_Walk_init
  b_Walk_init := (fun_mk (st := s_Walk_init) l_Walk_init c_Walk_init k_Walk_init).binds (ps := ["self", "long"]) fun _ _ _ _ _ _ us hl => match us, hl with | [_, _], _ => rfl
  a_Walk_out := a_Walk_out
  fd_Walk_out := PySem.W.fnOf "out" "Walk.out" (defArgs s_Walk_out) (defBody s_Walk_out) (defScope s_Walk_out) .none kV_Walk_out dc_Walk_out pm_Walk_out an_Walk_out cd_Walk_out ct_Walk_out
  F_Walk_out := fun_mk l_Walk_out c_Walk_out k_Walk_out
  b_Walk_out := (fun_mk (st := s_Walk_out) l_Walk_out c_Walk_out k_Walk_out).binds (ps := ["self", "found"]) fun _ _ _ _ _ _ us hl => match us, hl with | [_, _], _ => rfl
  a_Walk_place := a_Walk_place
  fd_Walk_place := PySem.W.fnOf "place" "Walk.place" (defArgs s_Walk_place) (defBody s_Walk_place) (defScope s_Walk_place) .none kV_Walk_place dc_Walk_place pm_Walk_place an_Walk_place cd_Walk_place ct_Walk_place
  F_Walk_place := fun_mk l_Walk_place c_Walk_place k_Walk_place
  b_Walk_place := (fun_mk (st := s_Walk_place) l_Walk_place c_Walk_place k_Walk_place).binds (ps := ["self"]) fun _ _ _ _ _ _ us hl => match us, hl with | [_], _ => rfl
  a_Walk_strip := a_Walk_strip
  fd_Walk_strip := PySem.W.fnOf "strip" "Walk.strip" (defArgs s_Walk_strip) (defBody s_Walk_strip) (defScope s_Walk_strip) .none kV_Walk_strip dc_Walk_strip pm_Walk_strip an_Walk_strip cd_Walk_strip ct_Walk_strip
  F_Walk_strip := fun_mk l_Walk_strip c_Walk_strip k_Walk_strip
  b_Walk_strip := (fun_mk (st := s_Walk_strip) l_Walk_strip c_Walk_strip k_Walk_strip).binds (ps := ["self"]) fun _ _ _ _ _ _ us hl => match us, hl with | [_], _ => rfl
  a_Walk_block := a_Walk_block
  fd_Walk_block := PySem.W.fnOf "block" "Walk.block" (defArgs s_Walk_block) (defBody s_Walk_block) (defScope s_Walk_block) .none kV_Walk_block dc_Walk_block pm_Walk_block an_Walk_block cd_Walk_block ct_Walk_block
  F_Walk_block := fun_mk l_Walk_block c_Walk_block k_Walk_block
  b_Walk_block := (fun_mk (st := s_Walk_block) l_Walk_block c_Walk_block k_Walk_block).binds (ps := ["self"]) fun _ _ _ _ _ _ us hl => match us, hl with | [_], _ => rfl
  a_by_blocks := a_by_blocks
  fd_by_blocks := PySem.W.fnOf "by_blocks" "by_blocks" (defArgs s_by_blocks) (defBody s_by_blocks) (defScope s_by_blocks) .none kV_by_blocks dc_by_blocks pm_by_blocks an_by_blocks cd_by_blocks ct_by_blocks
  F_by_blocks := fun_mk l_by_blocks c_by_blocks k_by_blocks
  b_by_blocks := (fun_mk (st := s_by_blocks) l_by_blocks c_by_blocks k_by_blocks).binds (ps := ["machine", "k", "many"]) fun _ _ _ _ _ _ us hl => match us, hl with | [_, _, _], _ => rfl
  m_by_blocks := PySem.W.mg_of X G n_by_blocks
  a_Strip_init := a_Strip_init
  fd_Strip_init := PySem.W.fnOf "__init__" "Strip.__init__" (defArgs s_Strip_init) (defBody s_Strip_init) (defScope s_Strip_init) .none kV_Strip_init dc_Strip_init pm_Strip_init an_Strip_init cd_Strip_init ct_Strip_init
  F_Strip_init := fun_mk l_Strip_init c_Strip_init k_Strip_init
  b_Strip_init := (fun_mk (st := s_Strip_init) l_Strip_init c_Strip_init k_Strip_init).binds (ps := ["self", "row", "runs"]) fun _ _ _ _ _ _ us hl => match us, hl with | [_, _, _], _ => rfl
  a_Strip_told := a_Strip_told
  fd_Strip_told := PySem.W.fnOf "told" "Strip.told" (defArgs s_Strip_told) (defBody s_Strip_told) (defScope s_Strip_told) .none kV_Strip_told dc_Strip_told pm_Strip_told an_Strip_told cd_Strip_told ct_Strip_told
  F_Strip_told := fun_mk l_Strip_told c_Strip_told k_Strip_told
  b_Strip_told := (fun_mk (st := s_Strip_told) l_Strip_told c_Strip_told k_Strip_told).binds (ps := ["self"]) fun _ _ _ _ _ _ us hl => match us, hl with | [_], _ => rfl
  a_put_run := a_put_run
  fd_put_run := PySem.W.fnOf "put_run" "put_run" (defArgs s_put_run) (defBody s_put_run) (defScope s_put_run) .none kV_put_run dc_put_run pm_put_run an_put_run cd_put_run ct_put_run
  F_put_run := fun_mk l_put_run c_put_run k_put_run
  b_put_run := (fun_mk (st := s_put_run) l_put_run c_put_run k_put_run).binds (ps := ["runs", "sign", "many"]) fun _ _ _ _ _ _ us hl => match us, hl with | [_, _, _], _ => rfl
  m_put_run := PySem.W.mg_of X G n_put_run
  a_taken := a_taken
  fd_taken := PySem.W.fnOf "taken" "taken" (defArgs s_taken) (defBody s_taken) (defScope s_taken) .none kV_taken dc_taken pm_taken an_taken cd_taken ct_taken
  F_taken := fun_mk l_taken c_taken k_taken
  b_taken := (fun_mk (st := s_taken) l_taken c_taken k_taken).binds (ps := ["runs"]) fun _ _ _ _ _ _ us hl => match us, hl with | [_], _ => rfl
  m_taken := PySem.W.mg_of X G n_taken
  a_Strip_stride := a_Strip_stride
  fd_Strip_stride := PySem.W.fnOf "stride" "Strip.stride" (defArgs s_Strip_stride) (defBody s_Strip_stride) (defScope s_Strip_stride) .none kV_Strip_stride dc_Strip_stride pm_Strip_stride an_Strip_stride cd_Strip_stride ct_Strip_stride
  F_Strip_stride := fun_mk l_Strip_stride c_Strip_stride k_Strip_stride
  b_Strip_stride := (fun_mk (st := s_Strip_stride) l_Strip_stride c_Strip_stride k_Strip_stride).binds (ps := ["self", "put", "way"]) fun _ _ _ _ _ _ us hl => match us, hl with | [_, _, _], _ => rfl
  a_Strip_step := a_Strip_step
  fd_Strip_step := PySem.W.fnOf "step" "Strip.step" (defArgs s_Strip_step) (defBody s_Strip_step) (defScope s_Strip_step) .none kV_Strip_step dc_Strip_step pm_Strip_step an_Strip_step cd_Strip_step ct_Strip_step
  F_Strip_step := fun_mk l_Strip_step c_Strip_step k_Strip_step
  b_Strip_step := (fun_mk (st := s_Strip_step) l_Strip_step c_Strip_step k_Strip_step).binds (ps := ["self", "put", "way", "row"]) fun _ _ _ _ _ _ us hl => match us, hl with | [_, _, _, _], _ => rfl
  a_by_strides := a_by_strides
  fd_by_strides := PySem.W.fnOf "by_strides" "by_strides" (defArgs s_by_strides) (defBody s_by_strides) (defScope s_by_strides) .none kV_by_strides dc_by_strides pm_by_strides an_by_strides cd_by_strides ct_by_strides
  F_by_strides := fun_mk l_by_strides c_by_strides k_by_strides
  b_by_strides := (fun_mk (st := s_by_strides) l_by_strides c_by_strides k_by_strides).binds (ps := ["machine", "row", "runs", "many"]) fun _ _ _ _ _ _ us hl => match us, hl with | [_, _, _, _], _ => rfl
  m_by_strides := PySem.W.mg_of X G n_by_strides
  a_L_caught := a_L_caught
  fd_L_caught := PySem.W.fnOf "_law_caught" "_law_caught" (defArgs s_L_caught) (defBody s_L_caught) (defScope s_L_caught) .none kV_L_caught dc_L_caught pm_L_caught an_L_caught cd_L_caught ct_L_caught
  F_L_caught := fun_mk l_L_caught c_L_caught k_L_caught
  b_L_caught := (fun_mk (st := s_L_caught) l_L_caught c_L_caught k_L_caught).binds (ps := ["_law_turn", "_law_machine_here", "_law_number"]) fun _ _ _ _ _ _ us hl => match us, hl with | [_, _, _], _ => rfl
  m_L_caught := PySem.W.mg_of X G n_L_caught
  a_law := a_law
  fd_law := PySem.W.fnOf "law" "law" (defArgs s_law) (defBody s_law) (defScope s_law) .none kV_law dc_law pm_law an_law cd_law ct_law
  F_law := fun_mk l_law c_law k_law
  b_law := (fun_mk (st := s_law) l_law c_law k_law).binds (ps := ["_law_script"]) fun _ _ _ _ _ _ us hl => match us, hl with | [_], _ => rfl
  m_law := PySem.W.mg_of X G n_law
  C_Full := C_Full
  m_Full := PySem.W.mg_of X G n_Full
  C_NoDeed := C_NoDeed
  m_NoDeed := PySem.W.mg_of X G n_NoDeed
  C_NoMachine := C_NoMachine
  m_NoMachine := PySem.W.mg_of X G n_NoMachine
  C_NoName := C_NoName
  m_NoName := PySem.W.mg_of X G n_NoName
  C_NoPaper := C_NoPaper
  m_NoPaper := PySem.W.mg_of X G n_NoPaper
  C_NoSize := C_NoSize
  m_NoSize := PySem.W.mg_of X G n_NoSize
  C_NoSuch := C_NoSuch
  m_NoSuch := PySem.W.mg_of X G n_NoSuch
  C_NoText := C_NoText
  m_NoText := PySem.W.mg_of X G n_NoText
  C_NoWidth := C_NoWidth
  m_NoWidth := PySem.W.mg_of X G n_NoWidth
  C_Twice := C_Twice
  m_Twice := PySem.W.mg_of X G n_Twice
  C_Walk := C_Walk
  m_Walk := PySem.W.mg_of X G n_Walk
  cl_Walk := ⟨pg_Walk, hd_Walk, po_Walk, sa_Walk⟩
  M_Walk := ⟨mk_Walk, n_Walk_init, i_Walk_init, kc_Walk⟩
  M_Walk_block := ⟨n_Walk_block, i_Walk_block, k_Walk_block⟩
  M_Walk_place := ⟨n_Walk_place, i_Walk_place, k_Walk_place⟩
  M_Walk_out := ⟨n_Walk_out, i_Walk_out, k_Walk_out⟩
  M_Walk_strip := ⟨n_Walk_strip, i_Walk_strip, k_Walk_strip⟩
  nA_Walk_long := f_Walk_long
  nA_Walk_blocks := f_Walk_blocks
  nA_Walk_at := f_Walk_at
  nA_Walk_row := f_Walk_row
  nA_Walk_side := f_Walk_side
  nA_Walk_steps := f_Walk_steps
  C_Strip := C_Strip
  m_Strip := PySem.W.mg_of X G n_Strip
  cl_Strip := ⟨pg_Strip, hd_Strip, po_Strip, sa_Strip⟩
  M_Strip := ⟨mk_Strip, n_Strip_init, i_Strip_init, kc_Strip⟩
  M_Strip_told := ⟨n_Strip_told, i_Strip_told, k_Strip_told⟩
  M_Strip_stride := ⟨n_Strip_stride, i_Strip_stride, k_Strip_stride⟩
  M_Strip_step := ⟨n_Strip_step, i_Strip_step, k_Strip_step⟩
  nA_Strip_sides := f_Strip_sides
  nA_Strip_sign := f_Strip_sign
  nA_Strip_row := f_Strip_row
  nA_Strip_steps := f_Strip_steps
  C_MillError := C_MillError
  m_MillError := PySem.W.mg_of X G n_MillError
  tk_MOST_ROWS := tk_MOST_ROWS
  m_MOST_ROWS := PySem.W.mg_of X G n_MOST_ROWS
  tk_MOST_SIGNS := tk_MOST_SIGNS
  m_MOST_SIGNS := PySem.W.mg_of X G n_MOST_SIGNS
  n_len := PySem.W.mg_none_of X G z_len
  n_max := PySem.W.mg_none_of X G z_max
  n_int := PySem.W.mg_none_of X G z_int
  n_range := PySem.W.mg_none_of X G z_range
  n_list := PySem.W.mg_none_of X G z_list
  n_isinstance := PySem.W.mg_none_of X G z_isinstance
  n_ValueError := PySem.W.mg_none_of X G z_ValueError
  n_all := PySem.W.mg_none_of X G z_all
  n_tuple := PySem.W.mg_none_of X G z_tuple
  n_sorted := PySem.W.mg_none_of X G z_sorted
  n_enumerate := PySem.W.mg_none_of X G z_enumerate
  x_NoMachine := fa_x_NoMachine
  k_NoMachine := fa_k_NoMachine
  b_NoMachine := fa_b_NoMachine
  t_NoMachine := fa_t_NoMachine
  h_NoMachine := fa_h_NoMachine
  k_MillError := fa_k_MillError
  b_MillError := fa_b_MillError
  t_MillError := fa_t_MillError
  h_MillError := fa_h_MillError
  hg_NoMachine := fa_hg_NoMachine
  hk_NoMachine := fa_hk_NoMachine
  ha_NoMachine := fa_ha_NoMachine
  hm_NoMachine := fa_hm_NoMachine
  s_NoMachine_MillError := fa_s_NoMachine_MillError
  hn_ := fa_hn_
  ht_ := fa_ht_
  i_Full := fa_i_Full
  se_Full := fa_se_Full
  t_Full := fa_t_Full
  s_NoMachine_Full := fa_s_NoMachine_Full
  sn_Full := fa_sn_Full
  i_NoDeed := fa_i_NoDeed
  se_NoDeed := fa_se_NoDeed
  t_NoDeed := fa_t_NoDeed
  s_NoMachine_NoDeed := fa_s_NoMachine_NoDeed
  sn_NoDeed := fa_sn_NoDeed
  i_NoMachine := fa_i_NoMachine
  se_NoMachine := fa_se_NoMachine
  s_NoMachine_NoMachine := fa_s_NoMachine_NoMachine
  sn_NoMachine := fa_sn_NoMachine
  i_NoName := fa_i_NoName
  se_NoName := fa_se_NoName
  t_NoName := fa_t_NoName
  s_NoMachine_NoName := fa_s_NoMachine_NoName
  sn_NoName := fa_sn_NoName
  i_NoPaper := fa_i_NoPaper
  se_NoPaper := fa_se_NoPaper
  t_NoPaper := fa_t_NoPaper
  s_NoMachine_NoPaper := fa_s_NoMachine_NoPaper
  sn_NoPaper := fa_sn_NoPaper
  i_NoSize := fa_i_NoSize
  se_NoSize := fa_se_NoSize
  t_NoSize := fa_t_NoSize
  s_NoMachine_NoSize := fa_s_NoMachine_NoSize
  sn_NoSize := fa_sn_NoSize
  i_NoSuch := fa_i_NoSuch
  se_NoSuch := fa_se_NoSuch
  t_NoSuch := fa_t_NoSuch
  s_NoMachine_NoSuch := fa_s_NoMachine_NoSuch
  sn_NoSuch := fa_sn_NoSuch
  i_NoText := fa_i_NoText
  se_NoText := fa_se_NoText
  t_NoText := fa_t_NoText
  s_NoMachine_NoText := fa_s_NoMachine_NoText
  sn_NoText := fa_sn_NoText
  i_NoWidth := fa_i_NoWidth
  se_NoWidth := fa_se_NoWidth
  t_NoWidth := fa_t_NoWidth
  s_NoMachine_NoWidth := fa_s_NoMachine_NoWidth
  sn_NoWidth := fa_sn_NoWidth
  i_Twice := fa_i_Twice
  se_Twice := fa_se_Twice
  t_Twice := fa_t_Twice
  s_NoMachine_Twice := fa_s_NoMachine_Twice
  sn_Twice := fa_sn_Twice
  s_NoMachine_ValueError := fa_s_NoMachine_ValueError
theorem all_mk {l : PySem.W.OpenLaw} {w : World} {K : PySem.W.Frag} {h : Heap} {mg : Str → Option Value} {fa : Addr} (X : K.In h) (G : h.Ns mainGlobals mg) (hfa : mg "law" = some (.ref fa)) (t : Tx K mg)
    (hb : ∃ (kV dc pm : Value) (an : Option Addr) (cd ct : Value), t.fd_law = PySem.W.fnOf "law" "law" (defArgs s_law) (defBody s_law) (defScope s_law) .none kV dc pm an cd ct) :
    ∃ fd : FuncData, (∀ (s : Shared) (v : Value), BindsTo s fd ⟨[v], []⟩ [("_law_script", v)]) ∧ ∀ base : Heap, K.In base → base.Ns mainGlobals mg → FnOk l.prog w K mg base CX0 7 fa fd ["_law_script"] (sp_law K) := by
  have e := hfa.symm.trans t.m_law
  cases e
  refine ⟨t.fd_law, fun s v => ?_, fun base _ _ => ok_law t⟩
  obtain ⟨kV, dc, pm, an, cd, ct, e⟩ := hb
  rw [e]
  exact .of_eq rfl
theorem walk {l : PySem.W.OpenLaw} {q : Program} {loose : List Str} {XP : (Str → Option Value) → Heap → Prop} {YP : World → Heap → Prop} {d : DefRec} {K : Params → PySem.W.Frag} (hn : l.most = some 63) (hdf : d.params.defaults = [])
    (hY : ∀ (w : World) (h : Heap), YP w h → (K w.params).In h)
    (F : ∀ (w : World) (mg : Str → Option Value) (fa : Addr) (h : Heap), (K w.params).In h → h.Ns mainGlobals mg → mg d.name = some (.ref fa) →
      ∃ fd : FuncData, (∀ (s : Shared) (u : Value), BindsTo s fd ⟨[u], []⟩ [("_law_script", u)]) ∧ ∀ base : Heap, (K w.params).In base → base.Ns mainGlobals mg → FnOk l.prog w (K w.params) mg base CX0 7 fa fd ["_law_script"] (sp_law (K w.params))) :
    PySem.W.WalkO q loose XP YP l.row.toRowW d [] (fun f vs => PySem.call f vs) :=
  L2.walk_of (n := 63) (k := 7) (x := "_law_script") (CX := fun _ => CX0) (sp := fun w => sp_law (K w.params)) hn (by decide) hdf ⟨rfl, by decide, by decide⟩ hY F (fun _ _ a ns hl _ hS => ⟨a, ns, rfl, hS, hl, fun _ => rfl⟩) fun _ _ _ _ _ z => z
theorem all_go {l : PySem.W.OpenLaw} {w : World} {K : PySem.W.Frag} {h : Heap} {mg : Str → Option Value} {fa : Addr} {a_L_at a_L_purse a_L_mixed a_L_draw a_L_entry a_L_machine a_L_kept a_L_bent a_L_class a_is_entry a_is_machine a_must_machine a_most_setups a_through a_Walk_init a_Walk_out a_Walk_place a_Walk_strip a_Walk_block a_by_blocks a_Strip_init a_Strip_told a_put_run a_taken a_Strip_stride a_Strip_step a_by_strides a_L_caught a_law C_Full C_NoDeed C_NoMachine C_NoName C_NoPaper C_NoSize C_NoSuch C_NoText C_NoWidth C_Twice C_Walk C_Strip C_MillError : Addr} {od_L_at an_L_at od_L_purse an_L_purse od_L_mixed an_L_mixed od_L_draw an_L_draw od_L_entry an_L_entry od_L_machine an_L_machine od_L_kept an_L_kept od_L_bent an_L_bent od_L_class an_L_class od_is_entry an_is_entry od_is_machine an_is_machine od_must_machine an_must_machine od_most_setups an_most_setups od_through an_through od_Walk_init an_Walk_init od_Walk_out an_Walk_out od_Walk_place an_Walk_place od_Walk_strip an_Walk_strip od_Walk_block an_Walk_block od_by_blocks an_by_blocks od_Strip_init an_Strip_init od_Strip_told an_Strip_told od_put_run an_put_run od_taken an_taken od_Strip_stride an_Strip_stride od_Strip_step an_Strip_step od_by_strides an_by_strides od_L_caught an_L_caught od_law an_law : Option Addr} {sl_L_at sl_L_purse sl_L_mixed sl_L_draw sl_L_entry sl_L_machine sl_L_kept sl_L_bent sl_L_class sl_is_entry sl_is_machine sl_must_machine sl_most_setups sl_through sl_Walk_init sl_Walk_out sl_Walk_place sl_Walk_strip sl_Walk_block sl_by_blocks sl_Strip_init sl_Strip_told sl_put_run sl_taken sl_Strip_stride sl_Strip_step sl_by_strides sl_L_caught sl_law : Array (Option Value)} {oc_L_at kV_L_at dc_L_at pm_L_at cd_L_at ct_L_at oc_L_purse kV_L_purse dc_L_purse pm_L_purse cd_L_purse ct_L_purse oc_L_mixed kV_L_mixed dc_L_mixed pm_L_mixed cd_L_mixed ct_L_mixed oc_L_draw kV_L_draw dc_L_draw pm_L_draw cd_L_draw ct_L_draw oc_L_entry kV_L_entry dc_L_entry pm_L_entry cd_L_entry ct_L_entry oc_L_machine kV_L_machine dc_L_machine pm_L_machine cd_L_machine ct_L_machine oc_L_kept kV_L_kept dc_L_kept pm_L_kept cd_L_kept ct_L_kept oc_L_bent kV_L_bent dc_L_bent pm_L_bent cd_L_bent ct_L_bent oc_L_class kV_L_class dc_L_class pm_L_class cd_L_class ct_L_class oc_is_entry kV_is_entry dc_is_entry pm_is_entry cd_is_entry ct_is_entry oc_is_machine kV_is_machine dc_is_machine pm_is_machine cd_is_machine ct_is_machine oc_must_machine kV_must_machine dc_must_machine pm_must_machine cd_must_machine ct_must_machine oc_most_setups kV_most_setups dc_most_setups pm_most_setups cd_most_setups ct_most_setups oc_through kV_through dc_through pm_through cd_through ct_through oc_Walk_init kV_Walk_init dc_Walk_init pm_Walk_init cd_Walk_init ct_Walk_init oc_Walk_out kV_Walk_out dc_Walk_out pm_Walk_out cd_Walk_out ct_Walk_out oc_Walk_place kV_Walk_place dc_Walk_place pm_Walk_place cd_Walk_place ct_Walk_place oc_Walk_strip kV_Walk_strip dc_Walk_strip pm_Walk_strip cd_Walk_strip ct_Walk_strip oc_Walk_block kV_Walk_block dc_Walk_block pm_Walk_block cd_Walk_block ct_Walk_block oc_by_blocks kV_by_blocks dc_by_blocks pm_by_blocks cd_by_blocks ct_by_blocks oc_Strip_init kV_Strip_init dc_Strip_init pm_Strip_init cd_Strip_init ct_Strip_init oc_Strip_told kV_Strip_told dc_Strip_told pm_Strip_told cd_Strip_told ct_Strip_told oc_put_run kV_put_run dc_put_run pm_put_run cd_put_run ct_put_run oc_taken kV_taken dc_taken pm_taken cd_taken ct_taken oc_Strip_stride kV_Strip_stride dc_Strip_stride pm_Strip_stride cd_Strip_stride ct_Strip_stride oc_Strip_step kV_Strip_step dc_Strip_step pm_Strip_step cd_Strip_step ct_Strip_step oc_by_strides kV_by_strides dc_by_strides pm_by_strides cd_by_strides ct_by_strides oc_L_caught kV_L_caught dc_L_caught pm_L_caught cd_L_caught ct_L_caught oc_law kV_law dc_law pm_law cd_law ct_law : Value} {tk_MOST_ROWS tk_MOST_SIGNS : Tok} (X : K.In h) (G : h.Ns mainGlobals mg) (hfa : mg "law" = some (.ref fa))
    (n_Full : PySem.W.nsIn K mainGlobals "Full" = some (some (.ref C_Full)))
    (n_NoDeed : PySem.W.nsIn K mainGlobals "NoDeed" = some (some (.ref C_NoDeed)))
    (n_NoMachine : PySem.W.nsIn K mainGlobals "NoMachine" = some (some (.ref C_NoMachine)))
    (n_NoName : PySem.W.nsIn K mainGlobals "NoName" = some (some (.ref C_NoName)))
    (n_NoPaper : PySem.W.nsIn K mainGlobals "NoPaper" = some (some (.ref C_NoPaper)))
    (n_NoSize : PySem.W.nsIn K mainGlobals "NoSize" = some (some (.ref C_NoSize)))
    (n_NoSuch : PySem.W.nsIn K mainGlobals "NoSuch" = some (some (.ref C_NoSuch)))
    (n_NoText : PySem.W.nsIn K mainGlobals "NoText" = some (some (.ref C_NoText)))
    (n_NoWidth : PySem.W.nsIn K mainGlobals "NoWidth" = some (some (.ref C_NoWidth)))
    (n_Twice : PySem.W.nsIn K mainGlobals "Twice" = some (some (.ref C_Twice)))
    (n_Walk : PySem.W.nsIn K mainGlobals "Walk" = some (some (.ref C_Walk)))
    (n_Strip : PySem.W.nsIn K mainGlobals "Strip" = some (some (.ref C_Strip)))
    (n_MillError : PySem.W.nsIn K mainGlobals "MillError" = some (some (.ref C_MillError)))
    (n_L_at : PySem.W.nsIn K mainGlobals "_law_at" = some (some (.ref a_L_at)))
    (l_L_at : K.lookup a_L_at = some ⟨oc_L_at, od_L_at, .func (PySem.W.fnOf "_law_at" "_law_at" (defArgs s_L_at) (defBody s_L_at) (defScope s_L_at) .none kV_L_at dc_L_at pm_L_at an_L_at cd_L_at ct_L_at), sl_L_at⟩)
    (c_L_at : PySem.W.codeIn K cd_L_at "_law_at" = true)
    (k_L_at : PySem.W.keepIn K (.ref a_L_at) = true)
    (n_L_purse : PySem.W.nsIn K mainGlobals "_law_purse" = some (some (.ref a_L_purse)))
    (l_L_purse : K.lookup a_L_purse = some ⟨oc_L_purse, od_L_purse, .func (PySem.W.fnOf "_law_purse" "_law_purse" (defArgs s_L_purse) (defBody s_L_purse) (defScope s_L_purse) .none kV_L_purse dc_L_purse pm_L_purse an_L_purse cd_L_purse ct_L_purse), sl_L_purse⟩)
    (c_L_purse : PySem.W.codeIn K cd_L_purse "_law_purse" = true)
    (k_L_purse : PySem.W.keepIn K (.ref a_L_purse) = true)
    (n_L_mixed : PySem.W.nsIn K mainGlobals "_law_mixed" = some (some (.ref a_L_mixed)))
    (l_L_mixed : K.lookup a_L_mixed = some ⟨oc_L_mixed, od_L_mixed, .func (PySem.W.fnOf "_law_mixed" "_law_mixed" (defArgs s_L_mixed) (defBody s_L_mixed) (defScope s_L_mixed) .none kV_L_mixed dc_L_mixed pm_L_mixed an_L_mixed cd_L_mixed ct_L_mixed), sl_L_mixed⟩)
    (c_L_mixed : PySem.W.codeIn K cd_L_mixed "_law_mixed" = true)
    (k_L_mixed : PySem.W.keepIn K (.ref a_L_mixed) = true)
    (n_L_draw : PySem.W.nsIn K mainGlobals "_law_draw" = some (some (.ref a_L_draw)))
    (l_L_draw : K.lookup a_L_draw = some ⟨oc_L_draw, od_L_draw, .func (PySem.W.fnOf "_law_draw" "_law_draw" (defArgs s_L_draw) (defBody s_L_draw) (defScope s_L_draw) .none kV_L_draw dc_L_draw pm_L_draw an_L_draw cd_L_draw ct_L_draw), sl_L_draw⟩)
    (c_L_draw : PySem.W.codeIn K cd_L_draw "_law_draw" = true)
    (k_L_draw : PySem.W.keepIn K (.ref a_L_draw) = true)
    (n_L_entry : PySem.W.nsIn K mainGlobals "_law_entry" = some (some (.ref a_L_entry)))
    (l_L_entry : K.lookup a_L_entry = some ⟨oc_L_entry, od_L_entry, .func (PySem.W.fnOf "_law_entry" "_law_entry" (defArgs s_L_entry) (defBody s_L_entry) (defScope s_L_entry) .none kV_L_entry dc_L_entry pm_L_entry an_L_entry cd_L_entry ct_L_entry), sl_L_entry⟩)
    (c_L_entry : PySem.W.codeIn K cd_L_entry "_law_entry" = true)
    (k_L_entry : PySem.W.keepIn K (.ref a_L_entry) = true)
    (n_L_machine : PySem.W.nsIn K mainGlobals "_law_machine" = some (some (.ref a_L_machine)))
    (l_L_machine : K.lookup a_L_machine = some ⟨oc_L_machine, od_L_machine, .func (PySem.W.fnOf "_law_machine" "_law_machine" (defArgs s_L_machine) (defBody s_L_machine) (defScope s_L_machine) .none kV_L_machine dc_L_machine pm_L_machine an_L_machine cd_L_machine ct_L_machine), sl_L_machine⟩)
    (c_L_machine : PySem.W.codeIn K cd_L_machine "_law_machine" = true)
    (k_L_machine : PySem.W.keepIn K (.ref a_L_machine) = true)
    (n_L_kept : PySem.W.nsIn K mainGlobals "_law_kept" = some (some (.ref a_L_kept)))
    (l_L_kept : K.lookup a_L_kept = some ⟨oc_L_kept, od_L_kept, .func (PySem.W.fnOf "_law_kept" "_law_kept" (defArgs s_L_kept) (defBody s_L_kept) (defScope s_L_kept) .none kV_L_kept dc_L_kept pm_L_kept an_L_kept cd_L_kept ct_L_kept), sl_L_kept⟩)
    (c_L_kept : PySem.W.codeIn K cd_L_kept "_law_kept" = true)
    (k_L_kept : PySem.W.keepIn K (.ref a_L_kept) = true)
    (n_L_bent : PySem.W.nsIn K mainGlobals "_law_bent" = some (some (.ref a_L_bent)))
    (l_L_bent : K.lookup a_L_bent = some ⟨oc_L_bent, od_L_bent, .func (PySem.W.fnOf "_law_bent" "_law_bent" (defArgs s_L_bent) (defBody s_L_bent) (defScope s_L_bent) .none kV_L_bent dc_L_bent pm_L_bent an_L_bent cd_L_bent ct_L_bent), sl_L_bent⟩)
    (c_L_bent : PySem.W.codeIn K cd_L_bent "_law_bent" = true)
    (k_L_bent : PySem.W.keepIn K (.ref a_L_bent) = true)
    (n_L_class : PySem.W.nsIn K mainGlobals "_law_class" = some (some (.ref a_L_class)))
    (l_L_class : K.lookup a_L_class = some ⟨oc_L_class, od_L_class, .func (PySem.W.fnOf "_law_class" "_law_class" (defArgs s_L_class) (defBody s_L_class) (defScope s_L_class) .none kV_L_class dc_L_class pm_L_class an_L_class cd_L_class ct_L_class), sl_L_class⟩)
    (c_L_class : PySem.W.codeIn K cd_L_class "_law_class" = true)
    (k_L_class : PySem.W.keepIn K (.ref a_L_class) = true)
    (n_is_entry : PySem.W.nsIn K mainGlobals "is_entry" = some (some (.ref a_is_entry)))
    (l_is_entry : K.lookup a_is_entry = some ⟨oc_is_entry, od_is_entry, .func (PySem.W.fnOf "is_entry" "is_entry" (defArgs s_is_entry) (defBody s_is_entry) (defScope s_is_entry) .none kV_is_entry dc_is_entry pm_is_entry an_is_entry cd_is_entry ct_is_entry), sl_is_entry⟩)
    (c_is_entry : PySem.W.codeIn K cd_is_entry "is_entry" = true)
    (k_is_entry : PySem.W.keepIn K (.ref a_is_entry) = true)
    (n_is_machine : PySem.W.nsIn K mainGlobals "is_machine" = some (some (.ref a_is_machine)))
    (l_is_machine : K.lookup a_is_machine = some ⟨oc_is_machine, od_is_machine, .func (PySem.W.fnOf "is_machine" "is_machine" (defArgs s_is_machine) (defBody s_is_machine) (defScope s_is_machine) .none kV_is_machine dc_is_machine pm_is_machine an_is_machine cd_is_machine ct_is_machine), sl_is_machine⟩)
    (c_is_machine : PySem.W.codeIn K cd_is_machine "is_machine" = true)
    (k_is_machine : PySem.W.keepIn K (.ref a_is_machine) = true)
    (n_must_machine : PySem.W.nsIn K mainGlobals "must_machine" = some (some (.ref a_must_machine)))
    (l_must_machine : K.lookup a_must_machine = some ⟨oc_must_machine, od_must_machine, .func (PySem.W.fnOf "must_machine" "must_machine" (defArgs s_must_machine) (defBody s_must_machine) (defScope s_must_machine) .none kV_must_machine dc_must_machine pm_must_machine an_must_machine cd_must_machine ct_must_machine), sl_must_machine⟩)
    (c_must_machine : PySem.W.codeIn K cd_must_machine "must_machine" = true)
    (k_must_machine : PySem.W.keepIn K (.ref a_must_machine) = true)
    (n_most_setups : PySem.W.nsIn K mainGlobals "most_setups" = some (some (.ref a_most_setups)))
    (l_most_setups : K.lookup a_most_setups = some ⟨oc_most_setups, od_most_setups, .func (PySem.W.fnOf "most_setups" "most_setups" (defArgs s_most_setups) (defBody s_most_setups) (defScope s_most_setups) .none kV_most_setups dc_most_setups pm_most_setups an_most_setups cd_most_setups ct_most_setups), sl_most_setups⟩)
    (c_most_setups : PySem.W.codeIn K cd_most_setups "most_setups" = true)
    (k_most_setups : PySem.W.keepIn K (.ref a_most_setups) = true)
    (n_through : PySem.W.nsIn K mainGlobals "through" = some (some (.ref a_through)))
    (l_through : K.lookup a_through = some ⟨oc_through, od_through, .func (PySem.W.fnOf "through" "through" (defArgs s_through) (defBody s_through) (defScope s_through) .none kV_through dc_through pm_through an_through cd_through ct_through), sl_through⟩)
    (c_through : PySem.W.codeIn K cd_through "through" = true)
    (k_through : PySem.W.keepIn K (.ref a_through) = true)
    (n_Walk_init : PySem.W.findIn K (.ref C_Walk) "__init__" = some (some (.ref a_Walk_init)))
    (i_Walk_init : PySem.W.isFn K (.ref a_Walk_init) = true)
    (l_Walk_init : K.lookup a_Walk_init = some ⟨oc_Walk_init, od_Walk_init, .func (PySem.W.fnOf "__init__" "Walk.__init__" (defArgs s_Walk_init) (defBody s_Walk_init) (defScope s_Walk_init) .none kV_Walk_init dc_Walk_init pm_Walk_init an_Walk_init cd_Walk_init ct_Walk_init), sl_Walk_init⟩)
    (c_Walk_init : PySem.W.codeIn K cd_Walk_init "Walk.__init__" = true)
    (k_Walk_init : PySem.W.keepIn K (.ref a_Walk_init) = true)
    (n_Walk_out : PySem.W.findIn K (.ref C_Walk) "out" = some (some (.ref a_Walk_out)))
    (i_Walk_out : PySem.W.isFn K (.ref a_Walk_out) = true)
    (l_Walk_out : K.lookup a_Walk_out = some ⟨oc_Walk_out, od_Walk_out, .func (PySem.W.fnOf "out" "Walk.out" (defArgs s_Walk_out) (defBody s_Walk_out) (defScope s_Walk_out) .none kV_Walk_out dc_Walk_out pm_Walk_out an_Walk_out cd_Walk_out ct_Walk_out), sl_Walk_out⟩)
    (c_Walk_out : PySem.W.codeIn K cd_Walk_out "Walk.out" = true)
    (k_Walk_out : PySem.W.keepIn K (.ref a_Walk_out) = true)
    (n_Walk_place : PySem.W.findIn K (.ref C_Walk) "place" = some (some (.ref a_Walk_place)))
    (i_Walk_place : PySem.W.isFn K (.ref a_Walk_place) = true)
    (l_Walk_place : K.lookup a_Walk_place = some ⟨oc_Walk_place, od_Walk_place, .func (PySem.W.fnOf "place" "Walk.place" (defArgs s_Walk_place) (defBody s_Walk_place) (defScope s_Walk_place) .none kV_Walk_place dc_Walk_place pm_Walk_place an_Walk_place cd_Walk_place ct_Walk_place), sl_Walk_place⟩)
    (c_Walk_place : PySem.W.codeIn K cd_Walk_place "Walk.place" = true)
    (k_Walk_place : PySem.W.keepIn K (.ref a_Walk_place) = true)
    (n_Walk_strip : PySem.W.findIn K (.ref C_Walk) "strip" = some (some (.ref a_Walk_strip)))
    (i_Walk_strip : PySem.W.isFn K (.ref a_Walk_strip) = true)
    (l_Walk_strip : K.lookup a_Walk_strip = some ⟨oc_Walk_strip, od_Walk_strip, .func (PySem.W.fnOf "strip" "Walk.strip" (defArgs s_Walk_strip) (defBody s_Walk_strip) (defScope s_Walk_strip) .none kV_Walk_strip dc_Walk_strip pm_Walk_strip an_Walk_strip cd_Walk_strip ct_Walk_strip), sl_Walk_strip⟩)
    (c_Walk_strip : PySem.W.codeIn K cd_Walk_strip "Walk.strip" = true)
    (k_Walk_strip : PySem.W.keepIn K (.ref a_Walk_strip) = true)
    (n_Walk_block : PySem.W.findIn K (.ref C_Walk) "block" = some (some (.ref a_Walk_block)))
    (i_Walk_block : PySem.W.isFn K (.ref a_Walk_block) = true)
    (l_Walk_block : K.lookup a_Walk_block = some ⟨oc_Walk_block, od_Walk_block, .func (PySem.W.fnOf "block" "Walk.block" (defArgs s_Walk_block) (defBody s_Walk_block) (defScope s_Walk_block) .none kV_Walk_block dc_Walk_block pm_Walk_block an_Walk_block cd_Walk_block ct_Walk_block), sl_Walk_block⟩)
    (c_Walk_block : PySem.W.codeIn K cd_Walk_block "Walk.block" = true)
    (k_Walk_block : PySem.W.keepIn K (.ref a_Walk_block) = true)
    (n_by_blocks : PySem.W.nsIn K mainGlobals "by_blocks" = some (some (.ref a_by_blocks)))
    (l_by_blocks : K.lookup a_by_blocks = some ⟨oc_by_blocks, od_by_blocks, .func (PySem.W.fnOf "by_blocks" "by_blocks" (defArgs s_by_blocks) (defBody s_by_blocks) (defScope s_by_blocks) .none kV_by_blocks dc_by_blocks pm_by_blocks an_by_blocks cd_by_blocks ct_by_blocks), sl_by_blocks⟩)
    (c_by_blocks : PySem.W.codeIn K cd_by_blocks "by_blocks" = true)
    (k_by_blocks : PySem.W.keepIn K (.ref a_by_blocks) = true)
    (n_Strip_init : PySem.W.findIn K (.ref C_Strip) "__init__" = some (some (.ref a_Strip_init)))
    (i_Strip_init : PySem.W.isFn K (.ref a_Strip_init) = true)
    (l_Strip_init : K.lookup a_Strip_init = some ⟨oc_Strip_init, od_Strip_init, .func (PySem.W.fnOf "__init__" "Strip.__init__" (defArgs s_Strip_init) (defBody s_Strip_init) (defScope s_Strip_init) .none kV_Strip_init dc_Strip_init pm_Strip_init an_Strip_init cd_Strip_init ct_Strip_init), sl_Strip_init⟩)
    (c_Strip_init : PySem.W.codeIn K cd_Strip_init "Strip.__init__" = true)
    (k_Strip_init : PySem.W.keepIn K (.ref a_Strip_init) = true)
    (n_Strip_told : PySem.W.findIn K (.ref C_Strip) "told" = some (some (.ref a_Strip_told)))
    (i_Strip_told : PySem.W.isFn K (.ref a_Strip_told) = true)
    (l_Strip_told : K.lookup a_Strip_told = some ⟨oc_Strip_told, od_Strip_told, .func (PySem.W.fnOf "told" "Strip.told" (defArgs s_Strip_told) (defBody s_Strip_told) (defScope s_Strip_told) .none kV_Strip_told dc_Strip_told pm_Strip_told an_Strip_told cd_Strip_told ct_Strip_told), sl_Strip_told⟩)
    (c_Strip_told : PySem.W.codeIn K cd_Strip_told "Strip.told" = true)
    (k_Strip_told : PySem.W.keepIn K (.ref a_Strip_told) = true)
    (n_put_run : PySem.W.nsIn K mainGlobals "put_run" = some (some (.ref a_put_run)))
    (l_put_run : K.lookup a_put_run = some ⟨oc_put_run, od_put_run, .func (PySem.W.fnOf "put_run" "put_run" (defArgs s_put_run) (defBody s_put_run) (defScope s_put_run) .none kV_put_run dc_put_run pm_put_run an_put_run cd_put_run ct_put_run), sl_put_run⟩)
    (c_put_run : PySem.W.codeIn K cd_put_run "put_run" = true)
    (k_put_run : PySem.W.keepIn K (.ref a_put_run) = true)
    (n_taken : PySem.W.nsIn K mainGlobals "taken" = some (some (.ref a_taken)))
    (l_taken : K.lookup a_taken = some ⟨oc_taken, od_taken, .func (PySem.W.fnOf "taken" "taken" (defArgs s_taken) (defBody s_taken) (defScope s_taken) .none kV_taken dc_taken pm_taken an_taken cd_taken ct_taken), sl_taken⟩)
    (c_taken : PySem.W.codeIn K cd_taken "taken" = true)
    (k_taken : PySem.W.keepIn K (.ref a_taken) = true)
    (n_Strip_stride : PySem.W.findIn K (.ref C_Strip) "stride" = some (some (.ref a_Strip_stride)))
    (i_Strip_stride : PySem.W.isFn K (.ref a_Strip_stride) = true)
    (l_Strip_stride : K.lookup a_Strip_stride = some ⟨oc_Strip_stride, od_Strip_stride, .func (PySem.W.fnOf "stride" "Strip.stride" (defArgs s_Strip_stride) (defBody s_Strip_stride) (defScope s_Strip_stride) .none kV_Strip_stride dc_Strip_stride pm_Strip_stride an_Strip_stride cd_Strip_stride ct_Strip_stride), sl_Strip_stride⟩)
    (c_Strip_stride : PySem.W.codeIn K cd_Strip_stride "Strip.stride" = true)
    (k_Strip_stride : PySem.W.keepIn K (.ref a_Strip_stride) = true)
    (n_Strip_step : PySem.W.findIn K (.ref C_Strip) "step" = some (some (.ref a_Strip_step)))
    (i_Strip_step : PySem.W.isFn K (.ref a_Strip_step) = true)
    (l_Strip_step : K.lookup a_Strip_step = some ⟨oc_Strip_step, od_Strip_step, .func (PySem.W.fnOf "step" "Strip.step" (defArgs s_Strip_step) (defBody s_Strip_step) (defScope s_Strip_step) .none kV_Strip_step dc_Strip_step pm_Strip_step an_Strip_step cd_Strip_step ct_Strip_step), sl_Strip_step⟩)
    (c_Strip_step : PySem.W.codeIn K cd_Strip_step "Strip.step" = true)
    (k_Strip_step : PySem.W.keepIn K (.ref a_Strip_step) = true)
    (n_by_strides : PySem.W.nsIn K mainGlobals "by_strides" = some (some (.ref a_by_strides)))
    (l_by_strides : K.lookup a_by_strides = some ⟨oc_by_strides, od_by_strides, .func (PySem.W.fnOf "by_strides" "by_strides" (defArgs s_by_strides) (defBody s_by_strides) (defScope s_by_strides) .none kV_by_strides dc_by_strides pm_by_strides an_by_strides cd_by_strides ct_by_strides), sl_by_strides⟩)
    (c_by_strides : PySem.W.codeIn K cd_by_strides "by_strides" = true)
    (k_by_strides : PySem.W.keepIn K (.ref a_by_strides) = true)
    (n_L_caught : PySem.W.nsIn K mainGlobals "_law_caught" = some (some (.ref a_L_caught)))
    (l_L_caught : K.lookup a_L_caught = some ⟨oc_L_caught, od_L_caught, .func (PySem.W.fnOf "_law_caught" "_law_caught" (defArgs s_L_caught) (defBody s_L_caught) (defScope s_L_caught) .none kV_L_caught dc_L_caught pm_L_caught an_L_caught cd_L_caught ct_L_caught), sl_L_caught⟩)
    (c_L_caught : PySem.W.codeIn K cd_L_caught "_law_caught" = true)
    (k_L_caught : PySem.W.keepIn K (.ref a_L_caught) = true)
    (n_law : PySem.W.nsIn K mainGlobals "law" = some (some (.ref a_law)))
    (l_law : K.lookup a_law = some ⟨oc_law, od_law, .func (PySem.W.fnOf "law" "law" (defArgs s_law) (defBody s_law) (defScope s_law) .none kV_law dc_law pm_law an_law cd_law ct_law), sl_law⟩)
    (c_law : PySem.W.codeIn K cd_law "law" = true)
    (k_law : PySem.W.keepIn K (.ref a_law) = true)
    (pg_Walk : PySem.W.plainGet K C_Walk Str.empty = true)
    (hd_Walk : PySem.W.hasDictIn K C_Walk = true)
    (po_Walk : PySem.W.plainOver K C_Walk = true)
    (sa_Walk : PySem.W.findIn K (.ref C_Walk) "__setattr__" = some (some (.builtin "object.__setattr__")))
    (mk_Walk : PySem.W.makesIn K C_Walk = true)
    (kc_Walk : PySem.W.keepIn K (.ref C_Walk) = true)
    (f_Walk_long : PySem.W.findIn K (.ref C_Walk) "long" = some none)
    (f_Walk_blocks : PySem.W.findIn K (.ref C_Walk) "blocks" = some none)
    (f_Walk_at : PySem.W.findIn K (.ref C_Walk) "at" = some none)
    (f_Walk_row : PySem.W.findIn K (.ref C_Walk) "row" = some none)
    (f_Walk_side : PySem.W.findIn K (.ref C_Walk) "side" = some none)
    (f_Walk_steps : PySem.W.findIn K (.ref C_Walk) "steps" = some none)
    (pg_Strip : PySem.W.plainGet K C_Strip Str.empty = true)
    (hd_Strip : PySem.W.hasDictIn K C_Strip = true)
    (po_Strip : PySem.W.plainOver K C_Strip = true)
    (sa_Strip : PySem.W.findIn K (.ref C_Strip) "__setattr__" = some (some (.builtin "object.__setattr__")))
    (mk_Strip : PySem.W.makesIn K C_Strip = true)
    (kc_Strip : PySem.W.keepIn K (.ref C_Strip) = true)
    (f_Strip_sides : PySem.W.findIn K (.ref C_Strip) "sides" = some none)
    (f_Strip_sign : PySem.W.findIn K (.ref C_Strip) "sign" = some none)
    (f_Strip_row : PySem.W.findIn K (.ref C_Strip) "row" = some none)
    (f_Strip_steps : PySem.W.findIn K (.ref C_Strip) "steps" = some none)
    (n_MOST_ROWS : PySem.W.nsIn K mainGlobals "MOST_ROWS" = some (some (.int 4 tk_MOST_ROWS)))
    (n_MOST_SIGNS : PySem.W.nsIn K mainGlobals "MOST_SIGNS" = some (some (.int 4 tk_MOST_SIGNS)))
    (z_len : PySem.W.nsIn K mainGlobals "len" = some none)
    (z_max : PySem.W.nsIn K mainGlobals "max" = some none)
    (z_int : PySem.W.nsIn K mainGlobals "int" = some none)
    (z_range : PySem.W.nsIn K mainGlobals "range" = some none)
    (z_list : PySem.W.nsIn K mainGlobals "list" = some none)
    (z_isinstance : PySem.W.nsIn K mainGlobals "isinstance" = some none)
    (z_ValueError : PySem.W.nsIn K mainGlobals "ValueError" = some none)
    (z_all : PySem.W.nsIn K mainGlobals "all" = some none)
    (z_tuple : PySem.W.nsIn K mainGlobals "tuple" = some none)
    (z_sorted : PySem.W.nsIn K mainGlobals "sorted" = some none)
    (z_enumerate : PySem.W.nsIn K mainGlobals "enumerate" = some none)
    (fa_x_NoMachine : PySem.W.excIn K C_NoMachine [.type "ValueError", .type "Exception", .type "BaseException", .type "object"] "ValueError.__new__" = true)
    (fa_k_NoMachine : PySem.W.keepIn K (.ref C_NoMachine) = true)
    (fa_b_NoMachine : PySem.W.subIn K (.ref C_NoMachine) (.type "BaseException") = some true)
    (fa_t_NoMachine : PySem.W.typeIn K (.ref C_NoMachine) = some (.type "type"))
    (fa_h_NoMachine : PySem.W.hasDictIn K C_NoMachine = true)
    (fa_k_MillError : PySem.W.keepIn K (.ref C_MillError) = true)
    (fa_b_MillError : PySem.W.subIn K (.ref C_MillError) (.type "BaseException") = some true)
    (fa_t_MillError : PySem.W.typeIn K (.ref C_MillError) = some (.type "type"))
    (fa_h_MillError : PySem.W.hasDictIn K C_MillError = true)
    (fa_hg_NoMachine : PySem.W.findIn K (.ref C_NoMachine) "__getattribute__" = some (some (.builtin "BaseException.__getattribute__")))
    (fa_hk_NoMachine : PySem.W.findIn K (.ref C_NoMachine) "__getattr__" = some none)
    (fa_ha_NoMachine : PySem.W.findIn K (.ref C_NoMachine) "__class__" = some (some (.builtin "object.__class__")))
    (fa_hm_NoMachine : PySem.W.mroIn K C_NoMachine (.type "object") = some true)
    (fa_s_NoMachine_MillError : PySem.W.subIn K (.ref C_NoMachine) (.ref C_MillError) = some true)
    (fa_hn_ : PySem.W.specialIn K (.builtin "object.__class__") "__get__" = some (some (.builtin "getset_descriptor.__get__")))
    (fa_ht_ : PySem.W.takesIn K (.builtin "object.__class__") = some true)
    (fa_i_Full : PySem.W.isClsIn K C_Full = true)
    (fa_se_Full : PySem.W.subIn K (.ref C_Full) (.ref C_Full) = some true)
    (fa_t_Full : PySem.W.typeIn K (.ref C_Full) = some (.type "type"))
    (fa_s_NoMachine_Full : PySem.W.subIn K (.ref C_NoMachine) (.ref C_Full) = some false)
    (fa_sn_Full : PySem.W.subIn K (.type "NoneType") (.ref C_Full) = some false)
    (fa_i_NoDeed : PySem.W.isClsIn K C_NoDeed = true)
    (fa_se_NoDeed : PySem.W.subIn K (.ref C_NoDeed) (.ref C_NoDeed) = some true)
    (fa_t_NoDeed : PySem.W.typeIn K (.ref C_NoDeed) = some (.type "type"))
    (fa_s_NoMachine_NoDeed : PySem.W.subIn K (.ref C_NoMachine) (.ref C_NoDeed) = some false)
    (fa_sn_NoDeed : PySem.W.subIn K (.type "NoneType") (.ref C_NoDeed) = some false)
    (fa_i_NoMachine : PySem.W.isClsIn K C_NoMachine = true)
    (fa_se_NoMachine : PySem.W.subIn K (.ref C_NoMachine) (.ref C_NoMachine) = some true)
    (fa_s_NoMachine_NoMachine : PySem.W.subIn K (.ref C_NoMachine) (.ref C_NoMachine) = some true)
    (fa_sn_NoMachine : PySem.W.subIn K (.type "NoneType") (.ref C_NoMachine) = some false)
    (fa_i_NoName : PySem.W.isClsIn K C_NoName = true)
    (fa_se_NoName : PySem.W.subIn K (.ref C_NoName) (.ref C_NoName) = some true)
    (fa_t_NoName : PySem.W.typeIn K (.ref C_NoName) = some (.type "type"))
    (fa_s_NoMachine_NoName : PySem.W.subIn K (.ref C_NoMachine) (.ref C_NoName) = some false)
    (fa_sn_NoName : PySem.W.subIn K (.type "NoneType") (.ref C_NoName) = some false)
    (fa_i_NoPaper : PySem.W.isClsIn K C_NoPaper = true)
    (fa_se_NoPaper : PySem.W.subIn K (.ref C_NoPaper) (.ref C_NoPaper) = some true)
    (fa_t_NoPaper : PySem.W.typeIn K (.ref C_NoPaper) = some (.type "type"))
    (fa_s_NoMachine_NoPaper : PySem.W.subIn K (.ref C_NoMachine) (.ref C_NoPaper) = some false)
    (fa_sn_NoPaper : PySem.W.subIn K (.type "NoneType") (.ref C_NoPaper) = some false)
    (fa_i_NoSize : PySem.W.isClsIn K C_NoSize = true)
    (fa_se_NoSize : PySem.W.subIn K (.ref C_NoSize) (.ref C_NoSize) = some true)
    (fa_t_NoSize : PySem.W.typeIn K (.ref C_NoSize) = some (.type "type"))
    (fa_s_NoMachine_NoSize : PySem.W.subIn K (.ref C_NoMachine) (.ref C_NoSize) = some false)
    (fa_sn_NoSize : PySem.W.subIn K (.type "NoneType") (.ref C_NoSize) = some false)
    (fa_i_NoSuch : PySem.W.isClsIn K C_NoSuch = true)
    (fa_se_NoSuch : PySem.W.subIn K (.ref C_NoSuch) (.ref C_NoSuch) = some true)
    (fa_t_NoSuch : PySem.W.typeIn K (.ref C_NoSuch) = some (.type "type"))
    (fa_s_NoMachine_NoSuch : PySem.W.subIn K (.ref C_NoMachine) (.ref C_NoSuch) = some false)
    (fa_sn_NoSuch : PySem.W.subIn K (.type "NoneType") (.ref C_NoSuch) = some false)
    (fa_i_NoText : PySem.W.isClsIn K C_NoText = true)
    (fa_se_NoText : PySem.W.subIn K (.ref C_NoText) (.ref C_NoText) = some true)
    (fa_t_NoText : PySem.W.typeIn K (.ref C_NoText) = some (.type "type"))
    (fa_s_NoMachine_NoText : PySem.W.subIn K (.ref C_NoMachine) (.ref C_NoText) = some false)
    (fa_sn_NoText : PySem.W.subIn K (.type "NoneType") (.ref C_NoText) = some false)
    (fa_i_NoWidth : PySem.W.isClsIn K C_NoWidth = true)
    (fa_se_NoWidth : PySem.W.subIn K (.ref C_NoWidth) (.ref C_NoWidth) = some true)
    (fa_t_NoWidth : PySem.W.typeIn K (.ref C_NoWidth) = some (.type "type"))
    (fa_s_NoMachine_NoWidth : PySem.W.subIn K (.ref C_NoMachine) (.ref C_NoWidth) = some false)
    (fa_sn_NoWidth : PySem.W.subIn K (.type "NoneType") (.ref C_NoWidth) = some false)
    (fa_i_Twice : PySem.W.isClsIn K C_Twice = true)
    (fa_se_Twice : PySem.W.subIn K (.ref C_Twice) (.ref C_Twice) = some true)
    (fa_t_Twice : PySem.W.typeIn K (.ref C_Twice) = some (.type "type"))
    (fa_s_NoMachine_Twice : PySem.W.subIn K (.ref C_NoMachine) (.ref C_Twice) = some false)
    (fa_sn_Twice : PySem.W.subIn K (.type "NoneType") (.ref C_Twice) = some false)
    (fa_s_NoMachine_ValueError : PySem.W.subIn K (.ref C_NoMachine) (.type "ValueError") = some true) :
    ∃ fd : FuncData, (∀ (s : Shared) (v : Value), BindsTo s fd ⟨[v], []⟩ [("_law_script", v)]) ∧ ∀ base : Heap, K.In base → base.Ns mainGlobals mg → FnOk l.prog w K mg base CX0 7 fa fd ["_law_script"] (sp_law K) :=
  all_mk X G hfa (all_tx X G n_Full n_NoDeed n_NoMachine n_NoName n_NoPaper n_NoSize n_NoSuch n_NoText n_NoWidth n_Twice n_Walk n_Strip n_MillError n_L_at l_L_at c_L_at k_L_at n_L_purse l_L_purse c_L_purse k_L_purse n_L_mixed l_L_mixed c_L_mixed k_L_mixed n_L_draw l_L_draw c_L_draw k_L_draw n_L_entry l_L_entry c_L_entry k_L_entry n_L_machine l_L_machine c_L_machine k_L_machine n_L_kept l_L_kept c_L_kept k_L_kept n_L_bent l_L_bent c_L_bent k_L_bent n_L_class l_L_class c_L_class k_L_class n_is_entry l_is_entry c_is_entry k_is_entry n_is_machine l_is_machine c_is_machine k_is_machine n_must_machine l_must_machine c_must_machine k_must_machine n_most_setups l_most_setups c_most_setups k_most_setups n_through l_through c_through k_through n_Walk_init i_Walk_init l_Walk_init c_Walk_init k_Walk_init n_Walk_out i_Walk_out l_Walk_out c_Walk_out k_Walk_out n_Walk_place i_Walk_place l_Walk_place c_Walk_place k_Walk_place n_Walk_strip i_Walk_strip l_Walk_strip c_Walk_strip k_Walk_strip n_Walk_block i_Walk_block l_Walk_block c_Walk_block k_Walk_block n_by_blocks l_by_blocks c_by_blocks k_by_blocks n_Strip_init i_Strip_init l_Strip_init c_Strip_init k_Strip_init n_Strip_told i_Strip_told l_Strip_told c_Strip_told k_Strip_told n_put_run l_put_run c_put_run k_put_run n_taken l_taken c_taken k_taken n_Strip_stride i_Strip_stride l_Strip_stride c_Strip_stride k_Strip_stride n_Strip_step i_Strip_step l_Strip_step c_Strip_step k_Strip_step n_by_strides l_by_strides c_by_strides k_by_strides n_L_caught l_L_caught c_L_caught k_L_caught n_law l_law c_law k_law pg_Walk hd_Walk po_Walk sa_Walk mk_Walk kc_Walk f_Walk_long f_Walk_blocks f_Walk_at f_Walk_row f_Walk_side f_Walk_steps pg_Strip hd_Strip po_Strip sa_Strip mk_Strip kc_Strip f_Strip_sides f_Strip_sign f_Strip_row f_Strip_steps n_MOST_ROWS n_MOST_SIGNS z_len z_max z_int z_range z_list z_isinstance z_ValueError z_all z_tuple z_sorted z_enumerate fa_x_NoMachine fa_k_NoMachine fa_b_NoMachine fa_t_NoMachine fa_h_NoMachine fa_k_MillError fa_b_MillError fa_t_MillError fa_h_MillError fa_hg_NoMachine fa_hk_NoMachine fa_ha_NoMachine fa_hm_NoMachine fa_s_NoMachine_MillError fa_hn_ fa_ht_ fa_i_Full fa_se_Full fa_t_Full fa_s_NoMachine_Full fa_sn_Full fa_i_NoDeed fa_se_NoDeed fa_t_NoDeed fa_s_NoMachine_NoDeed fa_sn_NoDeed fa_i_NoMachine fa_se_NoMachine fa_s_NoMachine_NoMachine fa_sn_NoMachine fa_i_NoName fa_se_NoName fa_t_NoName fa_s_NoMachine_NoName fa_sn_NoName fa_i_NoPaper fa_se_NoPaper fa_t_NoPaper fa_s_NoMachine_NoPaper fa_sn_NoPaper fa_i_NoSize fa_se_NoSize fa_t_NoSize fa_s_NoMachine_NoSize fa_sn_NoSize fa_i_NoSuch fa_se_NoSuch fa_t_NoSuch fa_s_NoMachine_NoSuch fa_sn_NoSuch fa_i_NoText fa_se_NoText fa_t_NoText fa_s_NoMachine_NoText fa_sn_NoText fa_i_NoWidth fa_se_NoWidth fa_t_NoWidth fa_s_NoMachine_NoWidth fa_sn_NoWidth fa_i_Twice fa_se_Twice fa_t_Twice fa_s_NoMachine_Twice fa_sn_Twice fa_s_NoMachine_ValueError) ⟨_, _, _, _, _, _, rfl⟩
end E
open PySem PySem.W PyProof.Rows
set_option maxRecDepth 100000 in
set_option maxHeartbeats 0 in
theorem PySem.Challenge.cw_endnever_k77_no_machines_walked_holds : PySem.Challenge.rw_endnever_k77_no_machines_walked.Holds := by
  w_on; o_law; k_head; (case hw => w_witness2)
  k_fill
  refine E.walk (l := PySem.Challenge.rw_endnever_k77_no_machines_walked) rfl rfl (fun w h Y => PySem.W.kIn_of Y) ?F
  case F =>
    intro w mg fa h KX G hmg
    refine' E.all_go KX G hmg ?n_Full ?n_NoDeed ?n_NoMachine ?n_NoName ?n_NoPaper ?n_NoSize ?n_NoSuch ?n_NoText ?n_NoWidth ?n_Twice ?n_Walk ?n_Strip ?n_MillError ?n_L_at ?l_L_at ?c_L_at ?k_L_at ?n_L_purse ?l_L_purse ?c_L_purse ?k_L_purse ?n_L_mixed ?l_L_mixed ?c_L_mixed ?k_L_mixed ?n_L_draw ?l_L_draw ?c_L_draw ?k_L_draw ?n_L_entry ?l_L_entry ?c_L_entry ?k_L_entry ?n_L_machine ?l_L_machine ?c_L_machine ?k_L_machine ?n_L_kept ?l_L_kept ?c_L_kept ?k_L_kept ?n_L_bent ?l_L_bent ?c_L_bent ?k_L_bent ?n_L_class ?l_L_class ?c_L_class ?k_L_class ?n_is_entry ?l_is_entry ?c_is_entry ?k_is_entry ?n_is_machine ?l_is_machine ?c_is_machine ?k_is_machine ?n_must_machine ?l_must_machine ?c_must_machine ?k_must_machine ?n_most_setups ?l_most_setups ?c_most_setups ?k_most_setups ?n_through ?l_through ?c_through ?k_through ?n_Walk_init ?i_Walk_init ?l_Walk_init ?c_Walk_init ?k_Walk_init ?n_Walk_out ?i_Walk_out ?l_Walk_out ?c_Walk_out ?k_Walk_out ?n_Walk_place ?i_Walk_place ?l_Walk_place ?c_Walk_place ?k_Walk_place ?n_Walk_strip ?i_Walk_strip ?l_Walk_strip ?c_Walk_strip ?k_Walk_strip ?n_Walk_block ?i_Walk_block ?l_Walk_block ?c_Walk_block ?k_Walk_block ?n_by_blocks ?l_by_blocks ?c_by_blocks ?k_by_blocks ?n_Strip_init ?i_Strip_init ?l_Strip_init ?c_Strip_init ?k_Strip_init ?n_Strip_told ?i_Strip_told ?l_Strip_told ?c_Strip_told ?k_Strip_told ?n_put_run ?l_put_run ?c_put_run ?k_put_run ?n_taken ?l_taken ?c_taken ?k_taken ?n_Strip_stride ?i_Strip_stride ?l_Strip_stride ?c_Strip_stride ?k_Strip_stride ?n_Strip_step ?i_Strip_step ?l_Strip_step ?c_Strip_step ?k_Strip_step ?n_by_strides ?l_by_strides ?c_by_strides ?k_by_strides ?n_L_caught ?l_L_caught ?c_L_caught ?k_L_caught ?n_law ?l_law ?c_law ?k_law ?pg_Walk ?hd_Walk ?po_Walk ?sa_Walk ?mk_Walk ?kc_Walk ?f_Walk_long ?f_Walk_blocks ?f_Walk_at ?f_Walk_row ?f_Walk_side ?f_Walk_steps ?pg_Strip ?hd_Strip ?po_Strip ?sa_Strip ?mk_Strip ?kc_Strip ?f_Strip_sides ?f_Strip_sign ?f_Strip_row ?f_Strip_steps ?n_MOST_ROWS ?n_MOST_SIGNS ?z_len ?z_max ?z_int ?z_range ?z_list ?z_isinstance ?z_ValueError ?z_all ?z_tuple ?z_sorted ?z_enumerate ?fa_x_NoMachine ?fa_k_NoMachine ?fa_b_NoMachine ?fa_t_NoMachine ?fa_h_NoMachine ?fa_k_MillError ?fa_b_MillError ?fa_t_MillError ?fa_h_MillError ?fa_hg_NoMachine ?fa_hk_NoMachine ?fa_ha_NoMachine ?fa_hm_NoMachine ?fa_s_NoMachine_MillError ?fa_hn_ ?fa_ht_ ?fa_i_Full ?fa_se_Full ?fa_t_Full ?fa_s_NoMachine_Full ?fa_sn_Full ?fa_i_NoDeed ?fa_se_NoDeed ?fa_t_NoDeed ?fa_s_NoMachine_NoDeed ?fa_sn_NoDeed ?fa_i_NoMachine ?fa_se_NoMachine ?fa_s_NoMachine_NoMachine ?fa_sn_NoMachine ?fa_i_NoName ?fa_se_NoName ?fa_t_NoName ?fa_s_NoMachine_NoName ?fa_sn_NoName ?fa_i_NoPaper ?fa_se_NoPaper ?fa_t_NoPaper ?fa_s_NoMachine_NoPaper ?fa_sn_NoPaper ?fa_i_NoSize ?fa_se_NoSize ?fa_t_NoSize ?fa_s_NoMachine_NoSize ?fa_sn_NoSize ?fa_i_NoSuch ?fa_se_NoSuch ?fa_t_NoSuch ?fa_s_NoMachine_NoSuch ?fa_sn_NoSuch ?fa_i_NoText ?fa_se_NoText ?fa_t_NoText ?fa_s_NoMachine_NoText ?fa_sn_NoText ?fa_i_NoWidth ?fa_se_NoWidth ?fa_t_NoWidth ?fa_s_NoMachine_NoWidth ?fa_sn_NoWidth ?fa_i_Twice ?fa_se_Twice ?fa_t_Twice ?fa_s_NoMachine_Twice ?fa_sn_Twice ?fa_s_NoMachine_ValueError
    (case n_Full => k_is); (case n_NoDeed => k_is); (case n_NoMachine => k_is); (case n_NoName => k_is); (case n_NoPaper => k_is); (case n_NoSize => k_is); (case n_NoSuch => k_is); (case n_NoText => k_is)
    (case n_NoWidth => k_is); (case n_Twice => k_is); (case n_Walk => k_is); (case n_Strip => k_is); (case n_MillError => k_is); (case n_L_at => k_is); (case l_L_at => k_is); (case c_L_at => k_is)
    (case k_L_at => k_is); (case n_L_purse => k_is); (case l_L_purse => k_is); (case c_L_purse => k_is); (case k_L_purse => k_is); (case n_L_mixed => k_is); (case l_L_mixed => k_is); (case c_L_mixed => k_is)
    (case k_L_mixed => k_is); (case n_L_draw => k_is); (case l_L_draw => k_is); (case c_L_draw => k_is); (case k_L_draw => k_is); (case n_L_entry => k_is); (case l_L_entry => k_is); (case c_L_entry => k_is)
    (case k_L_entry => k_is); (case n_L_machine => k_is); (case l_L_machine => k_is); (case c_L_machine => k_is); (case k_L_machine => k_is); (case n_L_kept => k_is); (case l_L_kept => k_is); (case c_L_kept => k_is)
    (case k_L_kept => k_is); (case n_L_bent => k_is); (case l_L_bent => k_is); (case c_L_bent => k_is); (case k_L_bent => k_is); (case n_L_class => k_is); (case l_L_class => k_is); (case c_L_class => k_is)
    (case k_L_class => k_is); (case n_is_entry => k_is); (case l_is_entry => k_is); (case c_is_entry => k_is); (case k_is_entry => k_is); (case n_is_machine => k_is); (case l_is_machine => k_is); (case c_is_machine => k_is)
    (case k_is_machine => k_is); (case n_must_machine => k_is); (case l_must_machine => k_is); (case c_must_machine => k_is); (case k_must_machine => k_is); (case n_most_setups => k_is); (case l_most_setups => k_is); (case c_most_setups => k_is)
    (case k_most_setups => k_is); (case n_through => k_is); (case l_through => k_is); (case c_through => k_is); (case k_through => k_is); (case n_Walk_init => k_is); (case i_Walk_init => k_is); (case l_Walk_init => k_is)
    (case c_Walk_init => k_is); (case k_Walk_init => k_is); (case n_Walk_out => k_is); (case i_Walk_out => k_is); (case l_Walk_out => k_is); (case c_Walk_out => k_is); (case k_Walk_out => k_is); (case n_Walk_place => k_is)
    (case i_Walk_place => k_is); (case l_Walk_place => k_is); (case c_Walk_place => k_is); (case k_Walk_place => k_is); (case n_Walk_strip => k_is); (case i_Walk_strip => k_is); (case l_Walk_strip => k_is); (case c_Walk_strip => k_is)
    (case k_Walk_strip => k_is); (case n_Walk_block => k_is); (case i_Walk_block => k_is); (case l_Walk_block => k_is); (case c_Walk_block => k_is); (case k_Walk_block => k_is); (case n_by_blocks => k_is); (case l_by_blocks => k_is)
    (case c_by_blocks => k_is); (case k_by_blocks => k_is); (case n_Strip_init => k_is); (case i_Strip_init => k_is); (case l_Strip_init => k_is); (case c_Strip_init => k_is); (case k_Strip_init => k_is); (case n_Strip_told => k_is)
    (case i_Strip_told => k_is); (case l_Strip_told => k_is); (case c_Strip_told => k_is); (case k_Strip_told => k_is); (case n_put_run => k_is); (case l_put_run => k_is); (case c_put_run => k_is); (case k_put_run => k_is)
    (case n_taken => k_is); (case l_taken => k_is); (case c_taken => k_is); (case k_taken => k_is); (case n_Strip_stride => k_is); (case i_Strip_stride => k_is); (case l_Strip_stride => k_is); (case c_Strip_stride => k_is)
    (case k_Strip_stride => k_is); (case n_Strip_step => k_is); (case i_Strip_step => k_is); (case l_Strip_step => k_is); (case c_Strip_step => k_is); (case k_Strip_step => k_is); (case n_by_strides => k_is); (case l_by_strides => k_is)
    (case c_by_strides => k_is); (case k_by_strides => k_is); (case n_L_caught => k_is); (case l_L_caught => k_is); (case c_L_caught => k_is); (case k_L_caught => k_is); (case n_law => k_is); (case l_law => k_is)
    (case c_law => k_is); (case k_law => k_is); (case pg_Walk => k_is); (case hd_Walk => k_is); (case po_Walk => k_is); (case sa_Walk => k_is); (case mk_Walk => k_is); (case kc_Walk => k_is)
    (case f_Walk_long => k_is); (case f_Walk_blocks => k_is); (case f_Walk_at => k_is); (case f_Walk_row => k_is); (case f_Walk_side => k_is); (case f_Walk_steps => k_is); (case pg_Strip => k_is); (case hd_Strip => k_is)
    (case po_Strip => k_is); (case sa_Strip => k_is); (case mk_Strip => k_is); (case kc_Strip => k_is); (case f_Strip_sides => k_is); (case f_Strip_sign => k_is); (case f_Strip_row => k_is); (case f_Strip_steps => k_is)
    (case n_MOST_ROWS => k_is); (case n_MOST_SIGNS => k_is); (case z_len => k_is); (case z_max => k_is); (case z_int => k_is); (case z_range => k_is); (case z_list => k_is); (case z_isinstance => k_is)
    (case z_ValueError => k_is); (case z_all => k_is); (case z_tuple => k_is); (case z_sorted => k_is); (case z_enumerate => k_is); (case fa_x_NoMachine => k_exc); (case fa_k_NoMachine => k_is); (case fa_b_NoMachine => k_is)
    (case fa_t_NoMachine => k_is); (case fa_h_NoMachine => k_is); (case fa_k_MillError => k_is); (case fa_b_MillError => k_is); (case fa_t_MillError => k_is); (case fa_h_MillError => k_is); (case fa_hg_NoMachine => k_is); (case fa_hk_NoMachine => k_is)
    (case fa_ha_NoMachine => k_is); (case fa_hm_NoMachine => k_is); (case fa_s_NoMachine_MillError => first | rfl | k_is); (case fa_hn_ => k_is); (case fa_ht_ => k_is); (case fa_i_Full => k_is); (case fa_se_Full => first | rfl | k_is); (case fa_t_Full => k_is)
    (case fa_s_NoMachine_Full => first | rfl | k_is); (case fa_sn_Full => k_is); (case fa_i_NoDeed => k_is); (case fa_se_NoDeed => first | rfl | k_is); (case fa_t_NoDeed => k_is); (case fa_s_NoMachine_NoDeed => first | rfl | k_is); (case fa_sn_NoDeed => k_is); (case fa_i_NoMachine => k_is)
    (case fa_se_NoMachine => first | rfl | k_is); (case fa_s_NoMachine_NoMachine => first | rfl | k_is); (case fa_sn_NoMachine => k_is); (case fa_i_NoName => k_is); (case fa_se_NoName => first | rfl | k_is); (case fa_t_NoName => k_is); (case fa_s_NoMachine_NoName => first | rfl | k_is); (case fa_sn_NoName => k_is)
    (case fa_i_NoPaper => k_is); (case fa_se_NoPaper => first | rfl | k_is); (case fa_t_NoPaper => k_is); (case fa_s_NoMachine_NoPaper => first | rfl | k_is); (case fa_sn_NoPaper => k_is); (case fa_i_NoSize => k_is); (case fa_se_NoSize => first | rfl | k_is); (case fa_t_NoSize => k_is)
    (case fa_s_NoMachine_NoSize => first | rfl | k_is); (case fa_sn_NoSize => k_is); (case fa_i_NoSuch => k_is); (case fa_se_NoSuch => first | rfl | k_is); (case fa_t_NoSuch => k_is); (case fa_s_NoMachine_NoSuch => first | rfl | k_is); (case fa_sn_NoSuch => k_is); (case fa_i_NoText => k_is)
    (case fa_se_NoText => first | rfl | k_is); (case fa_t_NoText => k_is); (case fa_s_NoMachine_NoText => first | rfl | k_is); (case fa_sn_NoText => k_is); (case fa_i_NoWidth => k_is); (case fa_se_NoWidth => first | rfl | k_is); (case fa_t_NoWidth => k_is); (case fa_s_NoMachine_NoWidth => first | rfl | k_is)
    (case fa_sn_NoWidth => k_is); (case fa_i_Twice => k_is); (case fa_se_Twice => first | rfl | k_is); (case fa_t_Twice => k_is); (case fa_s_NoMachine_Twice => first | rfl | k_is); (case fa_sn_Twice => k_is); (case fa_s_NoMachine_ValueError => k_is)
#print axioms PySem.Challenge.cw_endnever_k77_no_machines_walked_holds
