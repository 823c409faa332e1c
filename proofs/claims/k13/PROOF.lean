import PyProof.Rows.All
import Wide.All
import OpenK.AllK
import Wide.FinOn
import HandS.ForMost
import HandS.SortRule
import HandS.IsInst
import HandS.TupAny
import HandS.TupMul
import HandS.Walk
import HandS.More
import HandS.ListItems
import HandS.Wide
import KE.KTupSum
import HandS.Style
import HandS.SetFor
import HandS.Codes
import HandS.Replace
import PySem.Challenge.RW_endnever_k13_setups_shown_and_read
set_option Elab.async false
set_option maxRecDepth 100000
set_option maxHeartbeats 4000000
namespace E
open PySem L2
/-! ### small words of our own -/
theorem inr_int {x : V} {ns : List Int} {i : Nat} (h : (ns.map V.int)[i]? = some x) : ∃ z, x = V.int z ∧ ns[i]? = some z := by
  rw [List.getElem?_map] at h
  cases e : ns[i]? with
  | none => rw [e] at h; cases h
  | some z => rw [e] at h; exact ⟨z, (Option.some.inj h).symm, rfl⟩
/-- F stands in H, whatever comes to it -/
theorem sm_new {F H : Hp} {p : Addr} {o : HO} (s : Same F H) (n : H p = Option.none) : Same F (upd H p o) := fun b u e => by
  rw [upd_ne (ne_of_none (s b u e) n)]
  exact s b u e
theorem sm_set {F H : Hp} {p : Addr} {o : HO} (s : Same F H) (n : F p = Option.none) : Same F (upd H p o) := fun b u e => by
  rw [upd_ne (ne_of_none e n)]
  exact s b u e
theorem sm_up {H : Hp} {p : Addr} {o : HO} (n : H p = none) : Same H (upd H p o) := sm_new (Same.refl H) n
theorem cut_63 {ns : List Int} (h : ns.length ≤ 63) : cutV (ns.map V.int) none (some 63) = ns.map V.int := by
  unfold cutV
  have e1 : HT.sIx (ns.map V.int).length 0 none = 0 := rfl
  have e2 : HT.sIx (ns.map V.int).length (ns.map V.int).length (some 63) = (ns.map V.int).length := by
    simp only [HT.sIx, List.length_map]
    rw [if_neg (by decide), show (63 : Int).toNat = 63 from rfl]
    omega
  rw [e1, e2, List.drop_zero, Nat.sub_zero, List.take_length]
theorem ifT {c : Bool} {A B : Prop} (h : c = true) (a : A) : if c = true then A else B := by
  rw [if_pos h]; exact a
theorem ifF {c : Bool} {A B : Prop} (h : c = false) (b : B) : if c = true then A else B := by
  rw [h, if_neg Bool.false_ne_true]; exact b
theorem one_le : 1 ≤ sizeLine := by decide
theorem two_le : 2 ≤ sizeLine := by decide
theorem three_le : 3 ≤ sizeLine := by decide
theorem five_le : 5 ≤ sizeLine := by decide
theorem nil_le : 0 ≤ sizeLine := by decide
theorem lt_size {n : Nat} (h : n ≤ 1000000) : n < sizeLine := Nat.lt_of_le_of_lt h (by decide)
theorem le_size {n : Nat} (h : n ≤ 1000000) : n ≤ sizeLine := Nat.le_of_lt (lt_size h)
theorem pi_listK {X : Cx} {K : PySem.W.Frag} {tg l : Expr} {tl : TE} (e : X.K = K) (h : PE X l tl) : PI X tg l (iList K tl) := by
  subst e; exact pi_list h
theorem pi_tupK {X : Cx} {K : PySem.W.Frag} {tg l : Expr} {tl : TE} (e : X.K = K) (h : PE X l tl) : PI X tg l (iTup K tl) := by
  subst e; exact pi_tup h
theorem crK {X : Cx} {K : PySem.W.Frag} {f : Value} {r : PySem.W.Frag → List V → Hp → VK → Prop} (e : X.K = K) (h : CallR X f (r X.K)) : CallR X f (r K) := by
  subst e; exact h
theorem orK {X : Cx} {K : PySem.W.Frag} {f : Value → Value → Sem Value} {r : PySem.W.Frag → R2} (e : X.K = K) (h : OpR X f (r X.K)) : OpR X f (r K) := by
  subst e; exact h
theorem ixK {X : Cx} {K : PySem.W.Frag} {r : PySem.W.Frag → R2} (e : X.K = K) (h : IxR X (r X.K)) : IxR X (r K) := by
  subst e; exact h
theorem slK {X : Cx} {K : PySem.W.Frag} {r : PySem.W.Frag → V → Option Int → Option Int → Hp → VK → Prop} (e : X.K = K) (h : SlR X (r X.K)) : SlR X (r K) := by
  subst e; exact h
def rLenQ (K : PySem.W.Frag) : List V → Hp → VK → Prop := fun xs H Q => ∃ p ys, xs = [.ref p] ∧ (SqL K H p ys ∨ SqT K H p ys) ∧ Q (.int ys.length) H
def rListQ (K : PySem.W.Frag) : List V → Hp → VK → Prop := fun xs H Q => ∃ p ys, xs = [.ref p] ∧ (SqL K H p ys ∨ SqT K H p ys) ∧ ∀ l, H l = none → Q (.ref l) (upd H l (.lst ys))
def rTupQ (K : PySem.W.Frag) : List V → Hp → VK → Prop := fun xs H Q => ∃ p ys, xs = [.ref p] ∧ ((SqL K H p ys ∧ ∀ l, H l = none → Q (.ref l) (upd H l (.tup ys))) ∨ (SqT K H p ys ∧ Q (.ref p) H))
theorem ne_of_none' {F H : Hp} {q : Addr} (s : Same F H) (n : H q = none) : F q = none := s.free n
/-- a comprehension without a test: its item comes in -/
theorem yes {σ : St} {H : Hp} {A : Hp → Prop} {B : Hp → Prop} (a : A H) : tYes σ H (fun b H3 => if b = true then A H3 else B H3) := by
  show if true = true then A H else B H
  rw [if_pos rfl]; exact a
theorem call_lenQ {X : Cx} : CallR X (.builtin "len") (rLenQ X.K) := call_len_seq
theorem call_listQ {X : Cx} : CallR X (.type "list") (rListQ X.K) := call_list_of
theorem call_tupQ {X : Cx} : CallR X (.type "tuple") (rTupQ X.K) := call_tuple_of
@[irreducible] def rDictP (K : PySem.W.Frag) : List V → Hp → VK → Prop := fun xs H Q => ∃ (a : Addr) (ps : List Addr) (kvs : List (Key × V)), xs = [.ref a] ∧ SqL K H a (ps.map V.ref) ∧ Paired (fun p kv => SqT K H p [kV kv.1, kv.2]) ps kvs ∧ ∀ p, H p = none → Q (.ref p) (upd H p (.dK (mergeK [] kvs)))
theorem call_dictQ {X : Cx} (hc : X.calm = true) : CallR X (.type "dict") (rDictP X.K) := by
  unfold rDictP
  exact call_dictP hc
@[irreducible] def rSortQ (K : PySem.W.Frag) : List V → Hp → VK → Prop := rSortedPO K
theorem call_sortQ {X : Cx} : CallR X (.builtin "sorted") (rSortQ X.K) := by
  unfold rSortQ
  exact cr_sortedPO
theorem pg_tupK {X : Cx} {K : PySem.W.Frag} {es : List Expr} {k n : Nat} {t : TGs} {pos : Pos} (e : X.K = K) (hc : X.calm = true) (h : PGs X es t) (hn : (assignEach es X.env).length = n := by rfl) (hst : (assignEach es X.env).findIdx? (·.1) = none := by rfl) : PG X (.Tuple es k pos) (gTup K n t) := by
  subst e; exact pg_tup hc h hn hst
theorem pe_fldK {X : Cx} {K : PySem.W.Frag} {e : Expr} {f : Str} {pos : Pos} {ta : TE} (ek : X.K = K) (he : PE X e ta) (hb : attributeBase e f X.env (eval e X.env) = eval e X.env) : PE X (.Attribute e f pos) (tFld K ta f) := by
  subst ek; exact pe_fld he hb
/-! ### what stands, what is new: F the frozen part (nobody changes it), H the heap; from F, H to F', H' with changes at mu alone -/
structure Gr (mu : Addr → Prop) (F H F' H' : Hp) : Prop where
  ff : Same F F'
  fh : Same F' H'
  nw : ∀ c o, F' c = some o → F c = some o ∨ H c = none
  fr : ∀ c o, H c = some o → ¬ mu c → H' c = some o
  th : ∀ c, H' c = none → H c = none
/-- nothing but new things -/
abbrev mu0 : Addr → Prop := fun _ => False
/-- the purse alone -/
abbrev muP (p : Addr) : Addr → Prop := fun c => c = p
section
variable {mu : Addr → Prop} {F H F1 H1 F2 H2 : Hp} {q : Addr} {o u : HO}
theorem Gr.refl (s : Same F H) : Gr mu F H F H := ⟨fun _ _ h => h, s, fun _ _ h => .inl h, fun _ _ h _ => h, fun _ h => h⟩
theorem Gr.trans (a : Gr mu F H F1 H1) (b : Gr mu F1 H1 F2 H2) : Gr mu F H F2 H2 where
  ff := fun c o h => b.ff c o (a.ff c o h)
  fh := b.fh
  nw := fun c o h => by
    rcases b.nw c o h with h | h
    · exact a.nw c o h
    · exact .inr (a.th c h)
  fr := fun c o h m => b.fr c o (a.fr c o h m) m
  th := fun c h => a.th c (b.th c h)
/-- a part that changes what is ours, or what mu has -/
theorem Gr.thn {mu' : Addr → Prop} (a : Gr mu F H F1 H1) (b : Gr mu' F1 H1 F2 H2) (k : ∀ c, mu' c → mu c ∨ H c = none) : Gr mu F H F2 H2 where
  ff := fun c o h => b.ff c o (a.ff c o h)
  fh := b.fh
  nw := fun c o h => by
    rcases b.nw c o h with h | h
    · exact a.nw c o h
    · exact .inr (a.th c h)
  fr := fun c o h m => b.fr c o (a.fr c o h m) fun z => (k c z).elim m fun n => by rw [n] at h; cases h
  th := fun c h => a.th c (b.th c h)
theorem Gr.weak {mu' : Addr → Prop} (a : Gr mu F H F1 H1) (m : ∀ c, mu c → mu' c) : Gr mu' F H F1 H1 :=
  ⟨a.ff, a.fh, a.nw, fun c o h n => a.fr c o h fun z => n (m c z), a.th⟩
theorem Gr.of0 (a : Gr mu0 F H F1 H1) : Gr mu F H F1 H1 := a.weak fun _ z => z.elim
/-- a new thing that nobody will change -/
theorem Gr.new (a : Gr mu F H F1 H1) (n : H1 q = none) : Gr mu F H (upd F1 q o) (upd H1 q o) where
  ff := fun c o h => by
    rw [upd_ne (ne_of_none (a.fh c o (a.ff c o h)) n)]
    exact a.ff c o h
  fh := fun c u h => by
    by_cases e : c = q
    · subst e; rw [upd_same] at h ⊢; exact h
    · rw [upd_ne e] at h ⊢; exact a.fh c u h
  nw := fun c u h => by
    by_cases e : c = q
    · subst e; exact .inr (a.th _ n)
    · rw [upd_ne e] at h; exact a.nw c u h
  fr := fun c u h m => by
    rw [upd_ne (ne_of_none (a.fr c u h m) n)]
    exact a.fr c u h m
  th := fun c h => by
    by_cases e : c = q
    · subst e; rw [upd_same] at h; cases h
    · rw [upd_ne e] at h; exact a.th c h
/-- a new thing that may be changed yet -/
theorem Gr.own (a : Gr mu F H F1 H1) (n : H1 q = none) : Gr mu F H F1 (upd H1 q o) where
  ff := a.ff
  fh := fun c u h => by
    rw [upd_ne (ne_of_none (a.fh c u h) n)]
    exact a.fh c u h
  nw := a.nw
  fr := fun c u h m => by
    rw [upd_ne (ne_of_none (a.fr c u h m) n)]
    exact a.fr c u h m
  th := fun c h => by
    by_cases e : c = q
    · subst e; rw [upd_same] at h; cases h
    · rw [upd_ne e] at h; exact a.th c h
/-- a change of what is ours, and not frozen -/
theorem Gr.set (a : Gr mu F H F1 H1) (f : F1 q = none) (m : H q = none ∨ mu q) : Gr mu F H F1 (upd H1 q o) where
  ff := a.ff
  fh := fun c u h => by
    rw [upd_ne (ne_of_none h f)]
    exact a.fh c u h
  nw := a.nw
  fr := fun c u h k => by
    have e : c ≠ q := by
      rintro rfl
      rcases m with m | m
      · rw [m] at h; cases h
      · exact k m
    rw [upd_ne e]
    exact a.fr c u h k
  th := fun c h => by
    by_cases e : c = q
    · subst e; rw [upd_same] at h; cases h
    · rw [upd_ne e] at h; exact a.th c h
/-- what was ours is changed no more -/
theorem Gr.frz (a : Gr mu F H F1 H1) (h : H1 q = some o) (n : H q = none) (f : F1 q = none) : Gr mu F H (upd F1 q o) H1 where
  ff := fun c u e => by
    rw [upd_ne (ne_of_none (a.ff c u e) f)]
    exact a.ff c u e
  fh := fun c u e => by
    by_cases k : c = q
    · subst k; rw [upd_same] at e; cases e; exact h
    · rw [upd_ne k] at e; exact a.fh c u e
  nw := fun c u e => by
    by_cases k : c = q
    · subst k; exact .inr n
    · rw [upd_ne k] at e; exact a.nw c u e
  fr := a.fr
  th := a.th
theorem Gr.free (a : Gr mu F H F1 H1) (n : H1 q = none) : F1 q = none := a.fh.free n
end
/-- an owned thing: new since H, not frozen, it is o now -/
structure Ow (H F H1 : Hp) (q : Addr) (o : HO) : Prop where
  n : H q = none
  f : F q = none
  h : H1 q = some o
section
variable {mu mu' : Addr → Prop} {H0 F H F1 H1 : Hp} {q r : Addr} {o u : HO}
theorem Ow.call (w : Ow H0 F H q o) (a : Gr mu F H F1 H1) (m : ¬ mu q) : Ow H0 F1 H1 q o :=
  ⟨w.n, (by
    cases e : F1 q with
    | none => rfl
    | some z =>
      rcases a.nw q z e with k | k
      · rw [w.f] at k; cases k
      · rw [w.h] at k; cases k), a.fr q o w.h m⟩
theorem Ow.ne (w : Ow H0 F H q o) (n : H r = none) : q ≠ r := ne_of_none w.h n
theorem Ow.new (w : Ow H0 F H q o) (n : H r = none) : Ow H0 (upd F r u) (upd H r u) q o :=
  ⟨w.n, by rw [upd_ne (w.ne n)]; exact w.f, by rw [upd_ne (w.ne n)]; exact w.h⟩
theorem Ow.own (w : Ow H0 F H q o) (n : H r = none) : Ow H0 F (upd H r u) q o :=
  ⟨w.n, w.f, by rw [upd_ne (w.ne n)]; exact w.h⟩
theorem Ow.mk1 (a : Gr mu H0' H0 F H) (n : H q = none) : Ow H0 F (upd H q o) q o := ⟨a.th q n, a.free n, upd_same⟩
theorem Ow.set (w : Ow H0 F H q o) : Ow H0 F (upd H q u) q u := ⟨w.n, w.f, upd_same⟩
theorem Ow.other (w : Ow H0 F H q o) (e : q ≠ r) : Ow H0 F (upd H r u) q o := ⟨w.n, w.f, by rw [upd_ne e]; exact w.h⟩
end
/-! ### what stands for a datum -/
def All2 {α β : Type} (r : α → β → Prop) (xs : List α) (ys : List β) : Prop := xs.length = ys.length ∧ ∀ (i : Nat) (x : α) (y : β), xs[i]? = some x → ys[i]? = some y → r x y
section
variable {α β : Type} {r s : α → β → Prop} {xs xs' : List α} {ys ys' : List β}
theorem All2.nil : All2 r [] [] := ⟨rfl, fun i x y h => by simp at h⟩
theorem All2.get (a : All2 r xs ys) {i : Nat} {y : β} (h : ys[i]? = some y) : ∃ x, xs[i]? = some x ∧ r x y := by
  have l := (List.getElem?_eq_some_iff.mp h).1
  have l' : i < xs.length := by rw [a.1]; exact l
  exact ⟨xs[i], List.getElem?_eq_getElem l', a.2 i _ y (List.getElem?_eq_getElem l') h⟩
theorem All2.get' (a : All2 r xs ys) {i : Nat} {x : α} (h : xs[i]? = some x) : ∃ y, ys[i]? = some y ∧ r x y := by
  have l := (List.getElem?_eq_some_iff.mp h).1
  have l' : i < ys.length := by rw [← a.1]; exact l
  exact ⟨ys[i], List.getElem?_eq_getElem l', a.2 i x _ h (List.getElem?_eq_getElem l')⟩
theorem All2.imp (a : All2 r xs ys) (f : ∀ x y, r x y → s x y) : All2 s xs ys := ⟨a.1, fun i x y h k => f x y (a.2 i x y h k)⟩
theorem All2.app (a : All2 r xs ys) (b : All2 r xs' ys') : All2 r (xs ++ xs') (ys ++ ys') := by
  refine ⟨by rw [List.length_append, List.length_append, a.1, b.1], fun i x y h k => ?_⟩
  by_cases l : i < xs.length
  · rw [List.getElem?_append_left l] at h
    rw [List.getElem?_append_left (by rw [← a.1]; exact l)] at k
    exact a.2 i x y h k
  · rw [List.getElem?_append_right (by omega)] at h
    rw [List.getElem?_append_right (by rw [← a.1]; omega), ← a.1] at k
    exact b.2 _ x y h k
theorem All2.one {x : α} {y : β} (h : r x y) : All2 r [x] [y] := ⟨rfl, fun i a b p q => by
  cases i with
  | zero => simp at p q; subst p; subst q; exact h
  | succ n => simp at p⟩
theorem All2.cons {x : α} {y : β} (h : r x y) (a : All2 r xs ys) : All2 r (x :: xs) (y :: ys) := (All2.one h).app a
theorem All2.set (a : All2 r xs ys) {x : α} {y : β} (h : r x y) (j : Nat) : All2 r (xs.set j x) (ys.set j y) := by
  refine ⟨by rw [List.length_set, List.length_set]; exact a.1, fun i u v p q => ?_⟩
  by_cases e : j = i
  · subst e
    rw [List.getElem?_set_self'] at p q
    cases e1 : xs[j]? with
    | none => rw [e1] at p; cases p
    | some z =>
      cases e2 : ys[j]? with
      | none => rw [e2] at q; cases q
      | some z2 =>
        rw [e1] at p; rw [e2] at q
        cases p; cases q
        exact h
  · rw [List.getElem?_set_ne e] at p q
    exact a.2 i u v p q
theorem All2.take (a : All2 r xs ys) (n : Nat) : All2 r (xs.take n) (ys.take n) := by
  refine ⟨by rw [List.length_take, List.length_take, a.1], fun i u v p q => ?_⟩
  rw [List.getElem?_take] at p q
  split at p
  · rw [if_pos (by assumption)] at q; exact a.2 i u v p q
  · cases p
theorem All2.drop (a : All2 r xs ys) (n : Nat) : All2 r (xs.drop n) (ys.drop n) := by
  refine ⟨by rw [List.length_drop, List.length_drop, a.1], fun i u v p q => ?_⟩
  rw [List.getElem?_drop] at p q
  exact a.2 _ u v p q
end
class Dat (α : Type) where
  rep : Hp → V → α → Prop
  mono : ∀ {H H' : Hp} {v : V} {d : α}, Same H H' → rep H v d → rep H' v d
  py : α → PyData
  dp : ∀ {K : PySem.W.Frag} {H : Hp} {v : V} {d : α}, rep H v d → Dp K H v (py d)
  can : ∀ d, (py d).canLay0 = true
  dep : Nat
  depth : ∀ d, (py d).depth ≤ dep
  eqv : ∀ a b, PyData.eqv (py a) (py b) = true ↔ a = b
section
variable {α β γ : Type}
/-- v stands for d in H -/
abbrev Is [Dat α] (H : Hp) (v : V) (d : α) : Prop := Dat.rep H v d
theorem Is.up [Dat α] {H H' : Hp} {v : V} {d : α} (h : Is H v d) (s : Same H H') : Is H' v d := Dat.mono s h
abbrev IsAll [Dat α] (H : Hp) (xs : List V) (ds : List α) : Prop := All2 (fun v d => Is H v d) xs ds
theorem IsAll.up [Dat α] {H H' : Hp} {xs : List V} {ds : List α} (h : IsAll H xs ds) (s : Same H H') : IsAll H' xs ds := h.imp fun _ _ z => Is.up z s
theorem dp_all [Dat α] {K : PySem.W.Frag} {H : Hp} : ∀ {xs : List V} {ds : List α}, IsAll H xs ds → DpAll K H xs (ds.map Dat.py)
  | [], [], _ => .nil
  | [], d :: ds, h => by have := h.1; simp at this
  | x :: xs, [], h => by have := h.1; simp at this
  | x :: xs, d :: ds, h => .cons (Dat.dp (h.2 0 x d rfl rfl)) (dp_all ⟨by have := h.1; simpa using this, fun i a b p q => h.2 (i + 1) a b (by simpa using p) (by simpa using q)⟩)
theorem can_all [Dat α] : ∀ ds : List α, PyData.canLayAll0 (ds.map Dat.py) = true
  | [] => rfl
  | d :: ds => by
    show (PyData.canLay0 (Dat.py d) && PyData.canLayAll0 (ds.map Dat.py)) = true
    rw [Dat.can, can_all ds]; rfl
theorem depth_all [Dat α] : ∀ ds : List α, PyData.depthAll (ds.map Dat.py) ≤ Dat.dep α
  | [] => Nat.zero_le _
  | d :: ds => by
    show max (PyData.depth (Dat.py d)) (PyData.depthAll (ds.map Dat.py)) ≤ _
    exact Nat.max_le.mpr ⟨Dat.depth d, depth_all ds⟩
theorem eqv_all [Dat α] : ∀ a b : List α, PyData.eqvAll (a.map Dat.py) (b.map Dat.py) = true ↔ a = b
  | [], [] => by simp [PyData.eqvAll]
  | [], _ :: _ => by simp [PyData.eqvAll]
  | _ :: _, [] => by simp [PyData.eqvAll]
  | x :: xs, y :: ys => by
    rw [List.map_cons, List.map_cons, PyData.eqvAll, Bool.and_eq_true, Dat.eqv, eqv_all xs ys, List.cons.injEq]
instance : Dat Int where
  rep := fun _ v i => v = .int i
  mono := fun _ h => h
  py := .int
  dp := fun h => h ▸ .int _
  can := fun _ => rfl
  dep := 0
  depth := fun _ => Nat.le_refl _
  eqv := fun a b => by simp [PyData.eqv]
instance : Dat Bool where
  rep := fun _ v i => v = .bl i
  mono := fun _ h => h
  py := .bool
  dp := fun h => h ▸ .bl _
  can := fun _ => rfl
  dep := 0
  depth := fun _ => Nat.le_refl _
  eqv := fun a b => by simp [PyData.eqv]
/-- a list of data -/
instance [Dat α] : Dat (List α) where
  rep := fun H v l => ∃ a xs, v = .ref a ∧ H a = some (.lst xs) ∧ IsAll H xs l
  mono := fun s h => by
    obtain ⟨a, xs, e, h, i⟩ := h
    exact ⟨a, xs, e, s _ _ h, IsAll.up i s⟩
  py := fun l => .list (l.map Dat.py)
  dp := fun h => by
    obtain ⟨a, xs, rfl, h, i⟩ := h
    exact .lst (SqL.of h) (dp_all i)
  can := fun d => can_all d
  dep := Dat.dep α + 1
  depth := fun d => Nat.succ_le_succ (depth_all d)
  eqv := fun a b => by rw [PyData.eqv]; exact eqv_all a b
/-- a tuple of data of one kind -/
structure Tup (α : Type) where
  l : List α
  deriving DecidableEq
instance [Dat α] : Dat (Tup α) where
  rep := fun H v l => ∃ a xs, v = .ref a ∧ H a = some (.tup xs) ∧ IsAll H xs l.l
  mono := fun s h => by
    obtain ⟨a, xs, e, h, i⟩ := h
    exact ⟨a, xs, e, s _ _ h, IsAll.up i s⟩
  py := fun l => .tuple (l.l.map Dat.py)
  dp := fun h => by
    obtain ⟨a, xs, rfl, h, i⟩ := h
    exact .tup (SqT.of h) (dp_all i)
  can := fun d => can_all d.l
  dep := Dat.dep α + 1
  depth := fun d => Nat.succ_le_succ (depth_all d.l)
  eqv := fun a b => by
    rw [PyData.eqv, eqv_all]
    obtain ⟨a⟩ := a; obtain ⟨b⟩ := b
    simp
/-- a pair; a triple -/
structure T2 (α β : Type) where
  a : α
  b : β
  deriving DecidableEq
structure T3 (α β γ : Type) where
  a : α
  b : β
  c : γ
  deriving DecidableEq
instance [Dat α] [Dat β] : Dat (T2 α β) where
  rep := fun H v d => ∃ p x y, v = .ref p ∧ H p = some (.tup [x, y]) ∧ Is H x d.a ∧ Is H y d.b
  mono := fun s h => by
    obtain ⟨p, x, y, e, h, i, j⟩ := h
    exact ⟨p, x, y, e, s _ _ h, Is.up i s, Is.up j s⟩
  py := fun d => .tuple [Dat.py d.a, Dat.py d.b]
  dp := fun h => by
    obtain ⟨p, x, y, rfl, h, i, j⟩ := h
    exact .tup (SqT.of h) (.cons (Dat.dp i) (.cons (Dat.dp j) .nil))
  can := fun d => by
    show (PyData.canLay0 (Dat.py d.a) && (PyData.canLay0 (Dat.py d.b) && true)) = true
    rw [Dat.can, Dat.can]; rfl
  dep := max (Dat.dep α) (Dat.dep β) + 1
  depth := fun d => by
    have h1 := Dat.depth d.a
    have h2 := Dat.depth d.b
    show max (PyData.depth (Dat.py d.a)) (max (PyData.depth (Dat.py d.b)) 0) + 1 ≤ _
    omega
  eqv := fun a b => by
    obtain ⟨a, a'⟩ := a; obtain ⟨b, b'⟩ := b
    simp [PyData.eqv, PyData.eqvAll, Dat.eqv]
instance [Dat α] [Dat β] [Dat γ] : Dat (T3 α β γ) where
  rep := fun H v d => ∃ p x y z, v = .ref p ∧ H p = some (.tup [x, y, z]) ∧ Is H x d.a ∧ Is H y d.b ∧ Is H z d.c
  mono := fun s h => by
    obtain ⟨p, x, y, z, e, h, i, j, k⟩ := h
    exact ⟨p, x, y, z, e, s _ _ h, Is.up i s, Is.up j s, Is.up k s⟩
  py := fun d => .tuple [Dat.py d.a, Dat.py d.b, Dat.py d.c]
  dp := fun h => by
    obtain ⟨p, x, y, z, rfl, h, i, j, k⟩ := h
    exact .tup (SqT.of h) (.cons (Dat.dp i) (.cons (Dat.dp j) (.cons (Dat.dp k) .nil)))
  can := fun d => by
    show (PyData.canLay0 (Dat.py d.a) && (PyData.canLay0 (Dat.py d.b) && (PyData.canLay0 (Dat.py d.c) && true))) = true
    rw [Dat.can, Dat.can, Dat.can]; rfl
  dep := max (Dat.dep α) (max (Dat.dep β) (Dat.dep γ)) + 1
  depth := fun d => by
    have h1 := Dat.depth d.a
    have h2 := Dat.depth d.b
    have h3 := Dat.depth d.c
    show max (PyData.depth (Dat.py d.a)) (max (PyData.depth (Dat.py d.b)) (max (PyData.depth (Dat.py d.c)) 0)) + 1 ≤ _
    omega
  eqv := fun a b => by
    obtain ⟨a, a', a''⟩ := a; obtain ⟨b, b', b''⟩ := b
    simp [PyData.eqv, PyData.eqvAll, Dat.eqv]
/-- None, or a datum that is a tuple or a list -/
class Big (α : Type) [Dat α] : Prop where
  big : ∀ d : α, (∃ l, Dat.py d = .tuple l) ∨ ∃ l, Dat.py d = .list l
instance [Dat α] : Big (List α) := ⟨fun d => .inr ⟨_, rfl⟩⟩
instance [Dat α] : Big (Tup α) := ⟨fun d => .inl ⟨_, rfl⟩⟩
instance [Dat α] [Dat β] : Big (T2 α β) := ⟨fun d => .inl ⟨_, rfl⟩⟩
instance [Dat α] [Dat β] [Dat γ] : Big (T3 α β γ) := ⟨fun d => .inl ⟨_, rfl⟩⟩
instance [Dat α] [Big α] : Dat (Option α) where
  rep := fun H v d => match d with
    | none => v = .non
    | some d => Is H v d
  mono := fun {H H' v d} s h => by
    cases d with
    | none => exact h
    | some d => exact Is.up (show Is H v d from h) s
  py := fun d => match d with
    | none => .none
    | some d => Dat.py d
  dp := fun {K H v d} h => by
    cases d with
    | none => cases h; exact .non
    | some d => exact Dat.dp (show Is H v d from h)
  can := fun d => by
    cases d with
    | none => rfl
    | some d => exact Dat.can d
  dep := Dat.dep α
  depth := fun d => by
    cases d with
    | none => exact Nat.zero_le _
    | some d => exact Dat.depth d
  eqv := fun a b => by
    cases a with
    | none =>
      cases b with
      | none => exact ⟨fun _ => rfl, fun _ => rfl⟩
      | some b =>
        refine ⟨fun h => ?_, fun h => nomatch h⟩
        have h : PyData.eqv .none (Dat.py b) = true := h
        rcases Big.big b with ⟨l, e⟩ | ⟨l, e⟩ <;> (rw [e] at h; simp only [PyData.eqv] at h; cases h)
    | some a =>
      cases b with
      | none =>
        refine ⟨fun h => ?_, fun h => nomatch h⟩
        have h : PyData.eqv (Dat.py a) .none = true := h
        rcases Big.big a with ⟨l, e⟩ | ⟨l, e⟩ <;> (rw [e] at h; simp only [PyData.eqv] at h; cases h)
      | some b =>
        show PyData.eqv (Dat.py a) (Dat.py b) = true ↔ _
        rw [Dat.eqv, Option.some.injEq]
end
/-- == and != of data -/
theorem eq_dat0 {α : Type} [Dat α] [DecidableEq α] {a b : α} (hd : Dat.dep α ≤ 64) : SeqAt.shaped (Dat.py a) = true ∧ SeqAt.shaped (Dat.py b) = true ∧ PyData.eqv (Dat.py a) (Dat.py b) = decide (a = b) := by
  refine ⟨?_, ?_, ?_⟩
  · show (PyData.canLay0 _ && decide _) = true
    rw [Dat.can, decide_eq_true (Nat.le_trans (Dat.depth a) hd)]; rfl
  · show (PyData.canLay0 _ && decide _) = true
    rw [Dat.can, decide_eq_true (Nat.le_trans (Dat.depth b) hd)]; rfl
  · rw [Bool.eq_iff_iff, Dat.eqv, decide_eq_true_iff]
theorem eq_dat {α : Type} [Dat α] [DecidableEq α] {K : PySem.W.Frag} {H : Hp} {x y : V} {a b : α} {Q : VK} (ha : Is H x a) (hb : Is H y b) (q : Q (.bl (decide (a = b))) H) (hd : Dat.dep α ≤ 64 := by decide) : rEqD K x y H Q := by
  obtain ⟨h1, h2, h3⟩ := eq_dat0 (a := a) (b := b) hd
  exact ⟨Dat.py a, Dat.py b, Dat.dp ha, Dat.dp hb, h1, h2, by rw [h3]; exact q⟩
theorem ne_dat {α : Type} [Dat α] [DecidableEq α] {K : PySem.W.Frag} {H : Hp} {x y : V} {a b : α} {Q : VK} (ha : Is H x a) (hb : Is H y b) (q : Q (.bl (!decide (a = b))) H) (hd : Dat.dep α ≤ 64 := by decide) : rNeD K x y H Q := by
  obtain ⟨h1, h2, h3⟩ := eq_dat0 (a := a) (b := b) hd
  exact ⟨Dat.py a, Dat.py b, Dat.dp ha, Dat.dp hb, h1, h2, by rw [h3]; exact q⟩
/-! ### machines -/
/-- an entry -/
inductive Ent where
  | emp
  | go (put way row : Int)
  deriving DecidableEq
def entO : Ent → HO
  | .emp => .tup []
  | .go p w r => .tup [.int p, .int w, .int r]
def entP : Ent → PyData
  | .emp => .tuple []
  | .go p w r => .tuple [.int p, .int w, .int r]
instance : Dat Ent where
  rep := fun H v e => ∃ a, v = .ref a ∧ H a = some (entO e)
  mono := fun s h => by obtain ⟨a, e, h⟩ := h; exact ⟨a, e, s _ _ h⟩
  py := entP
  dp := fun {K H v d} h => by
    obtain ⟨a, rfl, h⟩ := h
    cases d with
    | emp => exact .tup (SqT.of h) .nil
    | go p w r => exact .tup (SqT.of h) (.cons (.int _) (.cons (.int _) (.cons (.int _) .nil)))
  can := fun d => by cases d <;> rfl
  dep := 1
  depth := fun d => by cases d <;> simp [entP, PyData.depth, PyData.depthAll]
  eqv := fun a b => by cases a <;> cases b <;> simp [entP, PyData.eqv, PyData.eqvAll]
instance : Big Ent := ⟨fun d => by cases d <;> exact .inl ⟨_, rfl⟩⟩
abbrev Mach := List (List Ent)
/-! ### pairs of ints: a dict's items, sorted ones -/
abbrev PI := T2 Int Int
def dI (l : List PI) : List (Key × V) := l.map fun p => (Sum.inl p.a, V.int p.b)
def look (l : List PI) (x : Int) : Option Int := (l.find? fun p => decide (p.a = x)).map (·.b)
def put (l : List PI) (x v : Int) : List PI := if (l.any fun p => decide (p.a = x)) = true then l.map (fun p => if p.a = x then ⟨p.a, v⟩ else p) else l ++ [⟨x, v⟩]
def merge (l m : List PI) : List PI := m.foldl (fun acc p => put acc p.a p.b) l
theorem key_inl (a b : Int) : ((Sum.inl a : Key) = Sum.inl b) = (a = b) := propext ⟨Sum.inl.inj, fun h => by rw [h]⟩
theorem dI_val (x : Int) : ∀ l : List PI, valV (dI l) (Sum.inl x) = (look l x).map V.int
  | [] => rfl
  | p :: l => by
    have ih := dI_val x l
    show valV ((Sum.inl p.a, V.int p.b) :: dI l) (Sum.inl x) = _
    by_cases e : p.a = x
    · rw [valV_pos (by rw [key_inl]; exact e)]
      simp [look, e]
    · rw [valV_neg (by rw [key_inl]; exact e), ih]
      simp [look, e]
theorem dI_put (l : List PI) (x v : Int) : putK (dI l) (Sum.inl x) (.int v) = dI (put l x v) := by
  have e : ((dI l).any fun kv => decide (kv.1 = Sum.inl x)) = (l.any fun p => decide (p.a = x)) := by
    unfold dI
    rw [List.any_map]
    congr 1
    funext p
    simp only [Function.comp, key_inl]
  unfold putK put
  rw [e]
  by_cases a : (l.any fun p => decide (p.a = x)) = true
  · rw [if_pos a, if_pos a]
    unfold dI
    rw [List.map_map, List.map_map]
    congr 1
    funext p
    simp only [Function.comp, key_inl]
    by_cases h : p.a = x
    · rw [if_pos h, if_pos h]
    · rw [if_neg h, if_neg h]
  · rw [if_neg a, if_neg a]
    unfold dI
    rw [List.map_append]
    rfl
theorem dI_merge (m : List PI) : ∀ l : List PI, mergeK (dI l) (dI m) = dI (merge l m) := by
  induction m with
  | nil => intro l; rfl
  | cons p m ih =>
    intro l
    show mergeK (putK (dI l) (Sum.inl p.a) (.int p.b)) (dI m) = dI (merge (put l p.a p.b) m)
    rw [dI_put]
    exact ih _
theorem look_nil (x : Int) : look [] x = none := rfl
theorem look_cons (p : PI) (l : List PI) (x : Int) : look (p :: l) x = if p.a = x then some p.b else look l x := by
  unfold look
  rw [List.find?_cons]
  by_cases e : p.a = x
  · simp [e]
  · simp [e]
theorem look_any (x : Int) : ∀ l : List PI, (l.any fun p => decide (p.a = x)) = (look l x).isSome
  | [] => rfl
  | p :: l => by
    rw [List.any_cons, look_any x l, look_cons]
    by_cases e : p.a = x
    · simp [e]
    · simp [e]
theorem look_map (x y v : Int) : ∀ l : List PI, look (l.map fun p => if p.a = x then ⟨p.a, v⟩ else p) y = (look l y).map fun z => if y = x then v else z
  | [] => rfl
  | p :: l => by
    rw [List.map_cons, look_cons, look_cons, look_map x y v l]
    by_cases e : p.a = x
    · rw [if_pos e]
      by_cases f : p.a = y
      · rw [if_pos f, if_pos f]
        rw [← f, Option.map_some, if_pos e]
      · rw [if_neg f, if_neg f]
    · rw [if_neg e]
      by_cases f : p.a = y
      · rw [if_pos f, if_pos f, Option.map_some, if_neg (by rw [← f]; exact e)]
      · rw [if_neg f, if_neg f]
theorem look_app (l m : List PI) (x : Int) : look (l ++ m) x = (look l x).or (look m x) := by
  induction l with
  | nil => rfl
  | cons p l ih =>
    rw [List.cons_append, look_cons, look_cons, ih]
    by_cases e : p.a = x
    · rw [if_pos e, if_pos e]; rfl
    · rw [if_neg e, if_neg e]
theorem look_put (l : List PI) (x v y : Int) : look (put l x v) y = if y = x then some v else look l y := by
  unfold put
  by_cases a : (l.any fun p => decide (p.a = x)) = true
  · rw [if_pos a, look_map]
    by_cases e : y = x
    · rw [if_pos e, e]
      rw [look_any] at a
      obtain ⟨z, hz⟩ := Option.isSome_iff_exists.mp a
      rw [hz, Option.map_some, if_pos rfl]
    · rw [if_neg e]
      cases look l y with
      | none => rfl
      | some z => rw [Option.map_some, if_neg e]
  · rw [if_neg a, look_app]
    rw [look_any] at a
    by_cases e : y = x
    · rw [if_pos e, e]
      cases h : look l x with
      | none => rw [look_cons, if_pos rfl]; rfl
      | some z => rw [h] at a; exact absurd rfl a
    · rw [if_neg e, look_cons, if_neg (fun z => e z.symm), look_nil]
      cases look l y <;> rfl
/-- no place twice -/
def Nd (l : List PI) : Prop := (l.map (·.a)).Nodup
theorem look_none {l : List PI} {x : Int} : look l x = none ↔ x ∉ l.map (·.a) := by
  induction l with
  | nil => simp [look_nil]
  | cons p l ih =>
    rw [look_cons, List.map_cons, List.mem_cons]
    by_cases e : p.a = x
    · rw [if_pos e]; simp [e]
    · rw [if_neg e, ih]
      constructor
      · intro h z
        rcases z with z | z
        · exact e z.symm
        · exact h z
      · intro h z
        exact h (.inr z)
theorem look_mem {l : List PI} (h : Nd l) {p : PI} (m : p ∈ l) : look l p.a = some p.b := by
  induction l with
  | nil => cases m
  | cons q l ih =>
    have h' := List.nodup_cons.mp h
    rw [look_cons]
    rcases List.mem_cons.mp m with rfl | m
    · rw [if_pos rfl]
    · rw [if_neg (fun e => h'.1 (by show q.a ∈ _; rw [e]; exact List.mem_map.mpr ⟨p, m, rfl⟩))]
      exact ih h'.2 m
theorem mem_look {l : List PI} {x v : Int} (h : look l x = some v) : (⟨x, v⟩ : PI) ∈ l := by
  induction l with
  | nil => cases h
  | cons q l ih =>
    rw [look_cons] at h
    by_cases e : q.a = x
    · rw [if_pos e] at h
      cases h
      subst e
      exact List.mem_cons_self
    · rw [if_neg e] at h
      exact List.mem_cons_of_mem _ (ih h)
theorem nd_put {l : List PI} (h : Nd l) (x v : Int) : Nd (put l x v) := by
  unfold put
  by_cases a : (l.any fun p => decide (p.a = x)) = true
  · rw [if_pos a]
    unfold Nd
    rw [List.map_map]
    have e : ((fun p : PI => p.a) ∘ fun p : PI => if p.a = x then (⟨p.a, v⟩ : PI) else p) = fun p : PI => p.a := by
      funext p
      simp only [Function.comp]
      split <;> rfl
    rw [e]; exact h
  · rw [if_neg a]
    unfold Nd
    rw [List.map_append]
    refine nd_snoc h ?_
    rw [look_any] at a
    refine look_none.mp ?_
    cases q : look l x with
    | none => rfl
    | some z => rw [q] at a; exact absurd rfl a
theorem put_new {l : List PI} {x : Int} (v : Int) (h : look l x = none) : put l x v = l ++ [⟨x, v⟩] := by
  unfold put
  rw [look_any, h]
  rfl
theorem merge_nd {m : List PI} : ∀ {l : List PI}, Nd (l ++ m) → merge l m = l ++ m := by
  induction m with
  | nil => intro l _; simp [merge]
  | cons p m ih =>
    intro l h
    have e : l ++ p :: m = (l ++ [p]) ++ m := by simp
    have hn : look l p.a = none := by
      refine look_none.mpr fun z => ?_
      unfold Nd at h
      rw [List.map_append] at h
      exact (List.nodup_append.mp h).2.2 _ z _ (by rw [List.map_cons]; exact List.mem_cons_self) rfl
    show merge (put l p.a p.b) m = _
    rw [put_new _ hn, e]
    exact ih (by rw [← e]; exact h)
theorem nd_nil : Nd [] := List.nodup_nil
theorem put_len (l : List PI) (x v : Int) : (put l x v).length ≤ l.length + 1 := by
  unfold put
  split
  · rw [List.length_map]; omega
  · rw [List.length_append]; exact Nat.le_refl _
/-- Python's order of pairs -/
def leP (p q : PI) : Bool := decide (p.a < q.a) || (decide (p.a = q.a) && decide (p.b ≤ q.b))
theorem leP_iff {p q : PI} : leP p q = true ↔ p.a < q.a ∨ (p.a = q.a ∧ p.b ≤ q.b) := by simp [leP]
def ins (p : PI) : List PI → List PI
  | [] => [p]
  | q :: l => if leP p q = true then p :: q :: l else q :: ins p l
def srt (l : List PI) : List PI := l.foldr ins []
theorem ins_perm (p : PI) : ∀ l : List PI, (ins p l).Perm (p :: l)
  | [] => List.Perm.refl _
  | q :: l => by
    unfold ins
    split
    · exact List.Perm.refl _
    · exact (List.Perm.cons q (ins_perm p l)).trans (List.Perm.swap p q l)
theorem srt_perm : ∀ l : List PI, (srt l).Perm l
  | [] => List.Perm.refl _
  | p :: l => (ins_perm p (srt l)).trans ((srt_perm l).cons p)
abbrev LeP (p q : PI) : Prop := leP p q = true
theorem leP_trans {p q r : PI} (h1 : LeP p q) (h2 : LeP q r) : LeP p r := by
  have a := leP_iff.mp h1
  have b := leP_iff.mp h2
  exact leP_iff.mpr (by omega)
theorem leP_total (p q : PI) : LeP p q ∨ LeP q p := by
  show leP p q = true ∨ leP q p = true
  rw [leP_iff, leP_iff]
  omega
theorem ins_srt (p : PI) : ∀ {l : List PI}, l.Pairwise LeP → (ins p l).Pairwise LeP
  | [], _ => List.pairwise_singleton _ _
  | q :: l, h => by
    have h' := List.pairwise_cons.mp h
    unfold ins
    split
    · rename_i e
      refine List.pairwise_cons.mpr ⟨fun x m => ?_, h⟩
      rcases List.mem_cons.mp m with rfl | m
      · exact e
      · exact leP_trans e (h'.1 x m)
    · rename_i e
      refine List.pairwise_cons.mpr ⟨fun x m => ?_, ins_srt p h'.2⟩
      rcases List.mem_cons.mp ((ins_perm p l).mem_iff.mp m) with rfl | m
      · rcases leP_total q x with z | z
        · exact z
        · exact absurd z e
      · exact h'.1 x m
theorem srt_srt : ∀ l : List PI, (srt l).Pairwise LeP
  | [] => List.Pairwise.nil
  | p :: l => ins_srt p (srt_srt l)
theorem leP_anti {p q : PI} (h1 : LeP p q) (h2 : LeP q p) : p = q := by
  have a := leP_iff.mp h1
  have b := leP_iff.mp h2
  obtain ⟨x, y⟩ := p
  obtain ⟨x', y'⟩ := q
  have e1 : x = x' := by show x = x'; simp only at a b; omega
  have e2 : y = y' := by simp only at a b; omega
  rw [e1, e2]
/-- there is one sorted list of them -/
theorem srt_uniq : ∀ {l m : List PI}, l.Pairwise LeP → m.Pairwise LeP → l.Perm m → l = m
  | [], m, _, _, h => (List.Perm.eq_nil h.symm).symm
  | x :: l, [], _, _, h => absurd h.length_eq (by simp)
  | x :: l, y :: m, hl, hm, h => by
    have l' := List.pairwise_cons.mp hl
    have m' := List.pairwise_cons.mp hm
    have h1 : LeP y x := by
      rcases List.mem_cons.mp (h.mem_iff.mp (List.mem_cons_self (a := x) (l := l))) with e | z
      · rw [e]; rcases leP_total y y with z | z <;> exact z
      · exact m'.1 x z
    have h2 : LeP x y := by
      rcases List.mem_cons.mp (h.mem_iff.mpr (List.mem_cons_self (a := y) (l := m))) with e | z
      · rw [e]; rcases leP_total x x with z | z <;> exact z
      · exact l'.1 y z
    have e := leP_anti h2 h1
    subst e
    rw [srt_uniq l'.2 m'.2 h.cons_inv]
theorem srt_of {l m : List PI} (h : m.Pairwise LeP) (p : m.Perm l) : m = srt l := srt_uniq h (srt_srt l) (p.trans (srt_perm l).symm)
/-- what a value says as a pair, read off the heap -/
def pOf (H : Hp) : V → Int × Int
  | .ref t => match H t with
    | some (.tup [.int i, .int j]) => (i, j)
    | _ => (0, 0)
  | _ => (0, 0)
theorem pOf_is {H : Hp} {v : V} {d : PI} (h : Is H v d) : ∃ t, v = .ref t ∧ H t = some (.tup [.int (pOf H v).1, .int (pOf H v).2]) ∧ d = ⟨(pOf H v).1, (pOf H v).2⟩ := by
  obtain ⟨t, x, y, rfl, h1, h2, h3⟩ := h
  have h2 : x = .int d.a := h2
  have h3 : y = .int d.b := h3
  subst h2
  subst h3
  have e : pOf H (.ref t) = (d.a, d.b) := by simp only [pOf, h1]
  exact ⟨t, rfl, by rw [e]; exact h1, by rw [e]⟩
theorem all_of {H : Hp} : ∀ {xs : List V} {l : List PI}, IsAll H xs l → l = xs.map fun v => (⟨(pOf H v).1, (pOf H v).2⟩ : PI) := fun {xs l} h => by
  refine List.ext_getElem? fun i => ?_
  rw [List.getElem?_map]
  cases e : xs[i]? with
  | none =>
    have := List.getElem?_eq_none_iff.mp e
    exact List.getElem?_eq_none_iff.mpr (by rw [← h.1]; exact this)
  | some x =>
    obtain ⟨d, hd, hx⟩ := h.get' e
    obtain ⟨t, _, _, q⟩ := pOf_is hx
    rw [hd, q]
    rfl
/-- sorted of a list of pairs -/
theorem sort_pairs {K : PySem.W.Frag} {F H : Hp} {a : Addr} {xs : List V} {l : List PI} {Q : VK} (sF : Same F H) (hx : IsAll F xs l) (ha : SqL K H a xs) (q : ∀ ys p, H p = none → IsAll F ys (srt l) → Q (.ref p) (upd H p (.lst ys))) : rSortQ K [.ref a] H Q := by
  unfold rSortQ
  refine ⟨a, xs, pOf F, rfl, ha, fun x m => ?_, fun ys p hs hb np => q ys p np ?_⟩
  · obtain ⟨i, hi⟩ := List.getElem?_of_mem m
    obtain ⟨d, _, hd⟩ := hx.get' hi
    obtain ⟨t, e, h, _⟩ := pOf_is hd
    exact ⟨t, e, sF _ _ h⟩
  · have el := all_of hx
    have hys : IsAll F ys (ys.map fun v => (⟨(pOf F v).1, (pOf F v).2⟩ : PI)) := by
      refine ⟨by rw [List.length_map], fun i x y h1 h2 => ?_⟩
      rw [List.getElem?_map, h1] at h2
      cases h2
      have m : x ∈ xs := hb.perm.mem_iff.mp (List.mem_of_getElem? h1)
      obtain ⟨j, hj⟩ := List.getElem?_of_mem m
      obtain ⟨d, _, hd⟩ := hx.get' hj
      obtain ⟨t, e, h, e2⟩ := pOf_is hd
      exact ⟨t, _, _, e, h, rfl, rfl⟩
    have es : (ys.map fun v => (⟨(pOf F v).1, (pOf F v).2⟩ : PI)) = srt l := by
      refine srt_of ?_ ?_
      · refine List.pairwise_map.mpr (List.Pairwise.imp (fun {x y} h => ?_) hs)
        have h := SrtO.lexB_no.mp h
        exact leP_iff.mpr (by simp only; omega)
      · rw [el]
        exact hb.perm.map _
    rw [es] at hys
    exact hys
theorem pairs_of {K : PySem.W.Frag} {H : Hp} : ∀ {xs : List V} {l : List PI}, IsAll H xs l → ∃ ps : List Addr, xs = ps.map V.ref ∧ Paired (fun p kv => SqT K H p [kV kv.1, kv.2]) ps (dI l)
  | [], [], _ => ⟨[], rfl, .nil⟩
  | [], d :: l, h => by have := h.1; simp at this
  | x :: xs, [], h => by have := h.1; simp at this
  | x :: xs, d :: l, h => by
    obtain ⟨t, x1, x2, e, h1, h2, h3⟩ := h.2 0 x d rfl rfl
    have h2 : x1 = .int d.a := h2
    have h3 : x2 = .int d.b := h3
    subst h2
    subst h3
    obtain ⟨ps, e2, p⟩ := pairs_of (K := K) (xs := xs) (l := l) ⟨by have := h.1; simpa using this, fun i a b p q => h.2 (i + 1) a b (by simpa using p) (by simpa using q)⟩
    exact ⟨t :: ps, by rw [e, e2]; rfl, .cons (SqT.of h1) p⟩
/-- dict(pairs) -/
theorem dict_pairs {K : PySem.W.Frag} {H : Hp} {a : Addr} {xs : List V} {l : List PI} {Q : VK} (hx : IsAll H xs l) (ha : SqL K H a xs) (q : ∀ p, H p = none → Q (.ref p) (upd H p (.dK (dI (merge [] l))))) : rDictP K [.ref a] H Q := by
  unfold rDictP
  obtain ⟨ps, e, p⟩ := pairs_of (K := K) hx
  refine ⟨a, ps, dI l, rfl, by rw [← e]; exact ha, p, fun d nd => ?_⟩
  have e2 : mergeK [] (dI l) = dI (merge [] l) := dI_merge l []
  rw [e2]
  exact q d nd
/-! ### a dict under its lock -/
theorem lock_in {F H : Hp} {d : Addr} {o : HO} (s : Same F H) : Same (fun c => if c = d then none else F c) (upd H d o) := fun c u h => by
  by_cases e : c = d
  · simp only [e, if_true] at h; cases h
  · simp only [e, if_false] at h
    rw [upd_ne e]; exact s c u h
theorem lock_out {F H F2 H2 : Hp} {d : Addr} {o u : HO} (s : Same F H) (h : H d = some u) (g : Gr mu0 (fun c => if c = d then none else F c) (upd H d o) F2 H2) :
    H2 d = some o ∧ Same F2 (fun c => if c = d then F d else F2 c) ∧ Gr mu0 F H (fun c => if c = d then F d else F2 c) (upd H2 d u) := by
  have n2 : F2 d = none := by
    cases e : F2 d with
    | none => rfl
    | some z =>
      rcases g.nw d z e with k | k
      · simp only [if_true] at k; cases k
      · rw [upd_same] at k; cases k
  refine ⟨g.fr d o upd_same (fun z => z), fun c z e => ?_, ⟨fun c z e => ?_, fun c z e => ?_, fun c z e => ?_, fun c z e m => ?_, fun c e => ?_⟩⟩
  · by_cases k : c = d
    · rw [k, n2] at e; cases e
    · simp only [k, if_false]; exact e
  · by_cases k : c = d
    · simp only [k, if_true]; rw [← k]; exact e
    · simp only [k, if_false]
      exact g.ff c z (by simp only [k, if_false]; exact e)
  · by_cases k : c = d
    · simp only [k, if_true] at e
      rw [k, upd_same, ← h]
      exact s d z e
    · simp only [k, if_false] at e
      rw [upd_ne k]; exact g.fh c z e
  · by_cases k : c = d
    · simp only [k, if_true] at e
      exact .inl (by rw [k]; exact e)
    · simp only [k, if_false] at e
      rcases g.nw c z e with q | q
      · simp only [k, if_false] at q; exact .inl q
      · rw [upd_ne k] at q; exact .inr q
  · by_cases k : c = d
    · rw [k, upd_same]; rw [k, h] at e; exact e
    · rw [upd_ne k]
      exact g.fr c z (by rw [upd_ne k]; exact e) (fun z => z)
  · by_cases k : c = d
    · rw [k, upd_same] at e; cases e
    · rw [upd_ne k] at e
      have q := g.th c e
      rw [upd_ne k] at q; exact q
/-- the signs that aren't 0, in order -/
def nz (p : PI) : Bool := decide (p.b ≠ 0)
def told (l : List PI) : List PI := srt (l.filter nz)
theorem dI_get {l : List PI} {i : Nat} (h : i < l.length) : (dI l)[i]? = some (Sum.inl l[i].a, V.int l[i].b) := by
  unfold dI
  rw [List.getElem?_map, List.getElem?_eq_getElem h]
  rfl
theorem filter_take_succ {l : List PI} {f : PI → Bool} {i : Nat} (h : i < l.length) : (l.take (i + 1)).filter f = (l.take i).filter f ++ (if f l[i] = true then [l[i]] else []) := by
  rw [List.take_add_one, List.getElem?_eq_getElem h, List.filter_append]
  show _ ++ List.filter f [l[i]] = _
  rw [List.filter_cons]
  split <;> rfl
theorem nd_srt {l : List PI} (h : Nd l) : Nd (srt l) := ((srt_perm l).map (fun p : PI => p.a)).nodup_iff.mpr h
theorem mem_srt {l : List PI} {q : PI} : q ∈ srt l ↔ q ∈ l := (srt_perm l).mem_iff
theorem mem_put {l : List PI} {x v : Int} {q : PI} (m : q ∈ put l x v) : q ∈ l ∨ q = ⟨x, v⟩ := by
  unfold put at m
  split at m
  · obtain ⟨z, hz, e⟩ := List.mem_map.mp m
    split at e
    · rename_i h1 h2
      exact .inr (by rw [← e, h2])
    · exact .inl (by rw [← e]; exact hz)
  · rcases List.mem_append.mp m with m | m
    · exact .inl m
    · exact .inr (List.mem_singleton.mp m)
/-! ### sorted(d.items()), d a dict of ints to ints -/
section
open PySem.Spec PyProof.Rows
variable {X : Cx}
/-- many new things are tracked at once -/
theorem inv_many {pins : List (Addr × Obj)} {σ : L2.St} {H H' : Hp} {s : Shared} {h' : Heap} {tk : Nat} {as : List Addr} (I : Inv X pins σ H s) (k : ∀ b o, s.heap.get? b = some o → h'.get? b = some o) (hp : ∀ a ∈ as, s.heap.objs.size ≤ a)
    (p1 : ∀ b, b ∉ as → H' b = H b) (p2 : ∀ b ∈ as, ∀ o, H' b = some o → ObjOk X.prog X.w H' h' b o) : Inv X pins σ H' { s with heap := h', toks := tk } := by
  have old : ∀ b o, s.heap.get? b = some o → b ∉ as := fun b o e z => Nat.lt_irrefl _ (Nat.lt_of_lt_of_le (Heap.lt_size e) (hp b z))
  have trc : ∀ b o, H b = some o → b ∉ as := fun b o e z => by
    have := I.hok.lt e
    exact Nat.lt_irrefl _ (Nat.lt_of_lt_of_le this (hp b z))
  have kp : ∀ b o, H b = some o → H' b = some o := fun b o e => by rw [p1 b (trc b o e)]; exact e
  refine I.un ⟨fun b o q _ _ _ => k b o q, fun b o q _ _ _ => ⟨o.slots, k b o q⟩, fun b o q n _ => by rw [p1 b (old b o q)]; exact n, fun b o q _ => ⟨o, k b o q⟩, fun b xs e => kp b _ e, fun b o u e => kp b _ e, fun b ps e => ⟨#[], by rw [kp b _ e]; simp⟩⟩ fun b o e => ?_
  by_cases m : b ∈ as
  · exact p2 b m o e
  · rw [p1 b m] at e
    exact (I.hok b o e).stay (fun c u _ q => k c u q) (fun c q => kp c _ q) fun c xs q => kp c _ q
/-- the pair that stands at a -/
def pzAt (zs : List (Addr × PI)) (a : Addr) : Option PI := (zs.find? fun z => decide (z.1 = a)).map (·.2)
theorem pzAt_ix : ∀ {zs : List (Addr × PI)}, (zs.map (·.1)).Nodup → ∀ {j : Nat} {z : Addr × PI}, zs[j]? = some z → pzAt zs z.1 = some z.2
  | [], _, j, z, h => by cases h
  | y :: ys, nd, 0, z, h => by
    have e := Option.some.inj h
    subst e
    simp [pzAt]
  | y :: ys, nd, j + 1, z, h => by
    have nd' := List.nodup_cons.mp nd
    have m : z.1 ∈ ys.map (·.1) := List.mem_map.mpr ⟨z, List.mem_of_getElem? (show ys[j]? = some z from h), rfl⟩
    have ih := pzAt_ix nd'.2 (show ys[j]? = some z from h)
    have ne : ¬ y.1 = z.1 := fun e => nd'.1 (by show y.1 ∈ _; rw [e]; exact m)
    unfold pzAt at ih ⊢
    rw [List.find?_cons, decide_eq_false ne]
    exact ih
theorem pzAt_no {zs : List (Addr × PI)} {a : Addr} (h : a ∉ zs.map (·.1)) : pzAt zs a = none := by
  unfold pzAt
  rw [List.find?_eq_none.mpr fun z m e => h (List.mem_map.mpr ⟨z, m, of_decide_eq_true e⟩)]
  rfl
def trk (H : Hp) (B : Addr) (L : HO) (zs : List (Addr × PI)) : Hp := fun b => if b = B then some L else match pzAt zs b with
  | some q => some (.tup [.int q.a, .int q.b])
  | none => H b
def adOf : Value → Addr
  | .ref a => a
  | _ => 0
@[irreducible] def rSortIt : V → Hp → VK → Prop := fun x H Q => ∃ (d : Addr) (l : List PI), x = .ref d ∧ H d = some (.dK (dI l)) ∧
  ∀ (H' : Hp) (p : Addr) (ys : List Addr), Same H H' → H p = none → (∀ t ∈ ys, H t = none) → p ∉ ys → (∀ b, b ≠ p → b ∉ ys → H' b = H b) → H' p = some (.lst (ys.map V.ref)) → All2 (fun t (q : PI) => H' t = some (.tup [.int q.a, .int q.b])) ys (srt l) → Q (.ref p) H'
def tSortIt (te : TE) : TE := fun σ H Q => te σ H fun x H1 => rSortIt x H1 Q
theorem pe_sortedItems {e : Expr} {te : TE} {p apos cpos pos : Pos} (hc : X.calm = true) (he : PE X e te) (hg : Gl X "sorted") (hm : X.mg "sorted" = none) (hv : bootBuiltins "sorted" = some (.builtin "sorted")) (hbase : attributeBase e "items" X.env (eval e X.env) = eval e X.env := by rfl) (hline : (apos.endLine == cpos.line) = true := by rfl)
    (hs : starEach [.Call (.Attribute e "items" apos) [] [] cpos] X.env = (false, eval (.Call (.Attribute e "items" apos) [] [] cpos) X.env) :: starEach [] X.env := by rfl) :
    PE X (.Call (.Name "sorted" p) [.Call (.Attribute e "items" apos) [] [] cpos] [] pos) (tSortIt te) := by
  refine ⟨fun pins s σ H Q I hq => ?_⟩
  refine wpAny_Call_Name_kw (ld_blt I hg hm hv ?_)
  refine PyProof.Rows.callWith_builtin1 ?_ hs rfl
  rw [hs]
  show wpAny _ _ (spliced ((false, eval (.Call (.Attribute e "items" apos) [] [] cpos) X.env) :: backTo pos (starEach [] X.env))) _ _ s
  refine Calls.spliced_cons ?_
  refine wpAny_Call_method (T := "dict") (id := "dict.items") hbase rfl hline F.plainAttrs_dict F.slot_dict_items F.type_dict_items (thn (he.run pins s σ H _ I hq) fun u s1 ⟨x, H1, I1, rx, q⟩ => ?_)
  unfold rSortIt at q
  obtain ⟨d, l, rfl, hd, q⟩ := q
  obtain rfl : u = Value.ref d := rx
  obtain ⟨hz, hs0, vs, kv, hdo⟩ := I1.hok d _ hd
  obtain ⟨ep, hat⟩ := hdo.dictAt
  have lk : (dI l).length = vs.length := Paired.length kv
  have ll : (dI l).length = l.length := by unfold dI; rw [List.length_map]
  refine ⟨hdo.typeIs, hdo.mapOf.noDict, ?_⟩
  show wpAny _ _ (callWith cpos (.builtin "dict.items") [.ref d] [] []) _ X.xe s1
  refine method_meetsIn F.slot_dict_items F.entry_dict_items rfl (PySem.evalArgs_none ⟨rfl, hdo.typeIs, F.args_dict_items_1 _, _, meets_dict_items (mixKind X.prog X.w) d hs0, ⟨vs, hdo⟩, ?_⟩)
  refine Calls.spliced_nil ?_
  have I2 : Inv X pins σ H1 { s1 with heap := s1.heap.push { cls := .type "dict_items", data := .fields #[.ref d] } } := I1.kept (t' := s1.toks) fun b ob q => Heap.get?_push_of_some _ q
  have hB : ((H1 d).isSome) = true := by rw [hd]; rfl
  refine Calls.call_function_entry kind_sorted plain_sorted entry_sorted (args_sorted1 _) (by
    unfold Builtin.«sorted»
    refine wpAny_bind (m := checkCount "sorted" 1 1 _) (wpAny_pure (wpAny_bind (PySem.W.kdx_collect (knd := mixKind X.prog X.w) (kvs := vs) (ep := ep) (I1.ok.hd hc) ⟨_, Heap.get?_push_size _ rfl, rfl, rfl⟩ (hat.push _) (by omega) fun h1 tk as hk hl hG => ?_)))
    refine wpAny_bind (wpAny_newList ?_ (by rw [List.length_map, hl]; omega))
    -- the pairs' tuples: at as
    have nd : as.Nodup := hG.rise.imp fun {a b} h => Nat.ne_of_lt h
    have lz : (as.zip l).map (·.1) = as := List.map_fst_zip (by omega)
    have zx : ∀ (j : Nat) (a : Addr), as[j]? = some a → ∃ (q : PI) (t u : Tok), l[j]? = some q ∧ pzAt (as.zip l) a = some q ∧ h1.get? a = some { cls := .type "tuple", data := .seq #[.int q.a t, .int q.b u] } := fun j a h => by
      obtain ⟨key, k, x, e1, e2, e3⟩ := hG.pairs j a h
      have jl : j < l.length := by have := (List.getElem?_eq_some_iff.mp h).1; omega
      have lj : l[j]? = some l[j] := List.getElem?_eq_getElem jl
      obtain ⟨y, e4, e5, e6⟩ := LiI.paired_get kv (dI_get jl)
      rw [e1] at e4
      have e4 := Option.some.inj e4
      subst e4
      obtain ⟨i, tk1, e7, rfl⟩ | ⟨z, tk1, e7, _⟩ := keyIs_shape (show keyIs k key = true from e2)
      · have e5 : Sum.inl l[j].a = k := e5
        rw [e7] at e5
        have e5 := Sum.inl.inj e5
        subst e5
        obtain ⟨tk2, e6⟩ := (show RelV (.int l[j].b) x from e6)
        subst e6
        exact ⟨l[j], tk1, tk2, lj, pzAt_ix (zs := as.zip l) (by rw [lz]; exact nd) (j := j) (z := (a, l[j])) (List.getElem?_zip_eq_some.mpr ⟨h, lj⟩), e3⟩
      · have e5 : Sum.inl l[j].a = k := e5
        rw [e7] at e5
        cases e5
    have zm : ∀ a ∈ as, ∃ (q : PI) (t u : Tok), pzAt (as.zip l) a = some q ∧ h1.get? a = some { cls := .type "tuple", data := .seq #[.int q.a t, .int q.b u] } := fun a m => by
      obtain ⟨j, hj⟩ := List.getElem?_of_mem m
      obtain ⟨q, t, u, _, h2, h3⟩ := zx j a hj
      exact ⟨q, t, u, h2, h3⟩
    have lm : as.map (fun a => (pzAt (as.zip l) a).getD ⟨0, 0⟩) = l := by
      refine List.ext_getElem? fun j => ?_
      rw [List.getElem?_map]
      cases hj : as[j]? with
      | none =>
        have := List.getElem?_eq_none_iff.mp hj
        exact (List.getElem?_eq_none_iff.mpr (by omega)).symm
      | some a =>
        obtain ⟨q, t, u, h1, h2, _⟩ := zx j a hj
        rw [h1, Option.map_some, h2]; rfl
    generalize ezs : as.zip l = zs at zx zm lm lz
    have s12 : (s1.heap.push { cls := .type "dict_items", data := .fields #[.ref d] }).objs.size ≤ h1.objs.size := by
      have := Heap.lt_size (hk _ _ (Heap.get?_push_size s1.heap rfl))
      rw [Heap.size_push]; exact this
    have Bn : h1.objs.size ∉ as := fun z => Nat.lt_irrefl _ (hG.there z)
    let kk : Value → Int × Int := fun v => (((pzAt zs (adOf v)).getD ⟨0, 0⟩).a, ((pzAt zs (adOf v)).getD ⟨0, 0⟩).b)
    have ho : (h1.push { cls := .type "list", data := .seq (as.map Value.ref).toArray }).get? h1.objs.size = some (seqObj "list" (as.map Value.ref).toArray 0) := Heap.get?_push_size _ rfl
    refine wpAny_bind (wpAny_holding (wpAny_call_entry slot_list_sort ⟨_, ho, rfl⟩ entry_list_sort (SrtO.list_sort_ord (ltv := fun v u => SrtO.lexB (kk v) (kk u)) (SrtO.swo_lex kk) ho (by rw [List.length_map, hl]; omega) (fun h2 => ?_) fun out hso hbo => ⟨_, rfl, wpAny_pure ⟨_, rfl, ?_⟩⟩) (args_list_sort _)))
    · refine SrtO.pairs_sortableO (k := kk) (by omega) (fun v m => ?_) fun o e => ?_
      · obtain ⟨a, ma, rfl⟩ := List.mem_map.mp m
        obtain ⟨q, t, u, h1', h2'⟩ := zm a ma
        refine ⟨a, _, t, u, 0, rfl, Heap.get?_push_of_some _ h2', rfl, ?_⟩
        show _ = Data.seq #[.int ((pzAt zs a).getD ⟨0, 0⟩).a t, .int ((pzAt zs a).getD ⟨0, 0⟩).b u] 0
        rw [h1']
        rfl
      · rw [ho] at e
        cases e
        intro c
        exact absurd (Value.type.inj c) (by decide)
    · have outp : out.Perm (as.map Value.ref) := hbo.perm
      have oe : out = (out.map adOf).map Value.ref := by
        rw [List.map_map]
        refine (List.map_id out).symm.trans (List.map_congr_left fun v m => ?_)
        obtain ⟨a, _, rfl⟩ := List.mem_map.mp (outp.mem_iff.mp m)
        rfl
      have yp : (out.map adOf).Perm as := by
        have := outp.map adOf
        rw [List.map_map] at this
        have e : as.map (adOf ∘ Value.ref) = as := (List.map_congr_left fun a _ => rfl).trans (List.map_id as)
        rw [e] at this; exact this
      generalize out.map adOf = ys at oe yp
      have lo : out.length ≤ sizeLine := by rw [oe, List.length_map, yp.length_eq, hl]; omega
      obtain ⟨ep3, h3B⟩ := sortedHeap_at (vs := as.map Value.ref) (out := out.toArray) ho
      have h3o : ∀ b o, h1.get? b = some o → (sortedHeap (h1.push { cls := .type "list", data := .seq (as.map Value.ref).toArray }) h1.objs.size (as.map Value.ref) out.toArray).get? b = some o := fun b o e => by
        have bl := Heap.lt_size e
        rw [sortedHeap_old (Nat.ne_of_lt bl) (by rw [Heap.size_push]; exact Nat.lt_succ_of_lt bl)]
        exact Heap.get?_push_of_some _ e
      have tB : trk H1 h1.objs.size (.lst (ys.map V.ref)) zs h1.objs.size = some (.lst (ys.map V.ref)) := by unfold trk; rw [if_pos rfl]
      have tT : ∀ a ∈ as, ∀ q, pzAt zs a = some q → trk H1 h1.objs.size (.lst (ys.map V.ref)) zs a = some (.tup [.int q.a, .int q.b]) := fun a m q e => by
        unfold trk
        rw [if_neg (fun z => Bn (by rw [← z]; exact m)), e]
      have tO : ∀ b, b ≠ h1.objs.size → b ∉ as → trk H1 h1.objs.size (.lst (ys.map V.ref)) zs b = H1 b := fun b n m => by
        unfold trk
        rw [if_neg n, pzAt_no (by rw [lz]; exact m)]
      have big : ∀ a ∈ h1.objs.size :: as, (s1.heap.push { cls := .type "dict_items", data := .fields #[.ref d] }).objs.size ≤ a := fun a m => by
        rcases List.mem_cons.mp m with rfl | m
        · exact s12
        · exact Nat.le_of_lt (hG.above a m)
      have J := inv_many (tk := tk) (H' := trk H1 h1.objs.size (.lst (ys.map V.ref)) zs) (h' := sortedHeap (h1.push { cls := .type "list", data := .seq (as.map Value.ref).toArray }) h1.objs.size (as.map Value.ref) out.toArray) (as := h1.objs.size :: as) I2 (fun b o e => h3o b o (hk b o e)) big
          (fun b m => tO b (fun z => m (by rw [z]; exact List.mem_cons_self)) (fun z => m (List.mem_cons_of_mem _ z))) (fun b m o e => by
        by_cases hb : b = h1.objs.size
        · subst hb
          rw [tB] at e
          cases e
          refine ⟨by rw [List.length_map, yp.length_eq, hl]; omega, out, ep3, ?_, h3B⟩
          rw [oe]
          exact LiI.vals_refs ys
        · have m := (List.mem_cons.mp m).resolve_left hb
          obtain ⟨q, t, u, e1, e2⟩ := zm b m
          rw [tT b m q e1] at e
          cases e
          exact ⟨two_le, [.int q.a t, .int q.b u], .cons ⟨_, rfl⟩ (.cons ⟨_, rfl⟩ .nil), ⟨_, h3o b _ e2, rfl, _, rfl⟩⟩)
      have fr1 : ∀ a ∈ h1.objs.size :: as, H1 a = none := fun a m => I2.hok.fresh (big a m)
      have ym : ∀ a, a ∈ ys ↔ a ∈ as := fun a => yp.mem_iff
      refine ⟨.ref h1.objs.size, _, J, rfl, q _ _ ys (fun b o e => ?_) (fr1 _ List.mem_cons_self) (fun t m => fr1 t (List.mem_cons_of_mem _ ((ym t).mp m))) (fun z => Bn ((ym _).mp z)) (fun b n m => tO b n fun z => m ((ym b).mpr z)) tB ?_⟩
      · rw [tO b (fun z => by rw [z, fr1 _ List.mem_cons_self] at e; cases e) (fun z => by rw [fr1 b (List.mem_cons_of_mem _ z)] at e; cases e)]
        exact e
      · have es : ys.map (fun a => (pzAt zs a).getD ⟨0, 0⟩) = srt l := by
          refine srt_of ?_ (by rw [← lm]; exact yp.map _)
          rw [oe] at hso
          have hso := List.pairwise_map.mp hso
          refine List.pairwise_map.mpr (hso.imp fun {x y} h => ?_)
          have h := SrtO.lexB_no.mp h
          exact leP_iff.mpr (by simp only [kk, adOf] at h; omega)
        rw [← es]
        refine ⟨by rw [List.length_map], fun i x y h1 h2 => ?_⟩
        rw [List.getElem?_map, h1] at h2
        cases h2
        have m := (ym x).mp (List.mem_of_getElem? h1)
        obtain ⟨q, t, u, e1, e2⟩ := zm x m
        rw [tT x m q e1]
        show _ = some (HO.tup [V.int ((pzAt zs x).getD ⟨0, 0⟩).a, V.int ((pzAt zs x).getD ⟨0, 0⟩).b])
        rw [e1]
        rfl)
theorem sitems {F H : Hp} {d : Addr} {l : List PI} {Q : VK} (sF : Same F H) (hd : H d = some (.dK (dI l))) (q : ∀ (F' H' : Hp) (p : Addr) (xs : List V), Gr mu0 F H F' H' → Ow H F' H' p (.lst xs) → IsAll F' xs (srt l) → Q (.ref p) H') : rSortIt (.ref d) H Q := by
  unfold rSortIt
  refine ⟨d, l, rfl, hd, fun H' p ys s n nt pn off hp al => ?_⟩
  have fy : ∀ b ∈ ys, F b = none := fun b m => sF.free (nt b m)
  have s' : Same F (fun b => if b ∈ ys then H' b else F b) := fun b o e => by
    by_cases m : b ∈ ys
    · rw [fy b m] at e; cases e
    · simp only [m, if_false]; exact e
  have e2 : ∀ b, b ∈ ys → (if b ∈ ys then H' b else F b) = H' b := fun b m => if_pos m
  refine q (fun b => if b ∈ ys then H' b else F b) H' p (ys.map V.ref) ⟨s', fun b o e => ?_, fun b o e => ?_, fun b o e _ => s b o e, fun b e => s.free e⟩ ⟨n, ?_, hp⟩ ⟨by rw [List.length_map]; exact al.1, fun i x y h1 h2 => ?_⟩
  · by_cases m : b ∈ ys
    · simp only [m, if_true] at e; exact e
    · simp only [m, if_false] at e; exact s b o (sF b o e)
  · by_cases m : b ∈ ys
    · exact .inr (nt b m)
    · simp only [m, if_false] at e; exact .inl e
  · show (if p ∈ ys then H' p else F p) = none
    rw [if_neg pn]; exact sF.free n
  · rw [List.getElem?_map] at h1
    cases e : ys[i]? with
    | none => rw [e] at h1; cases h1
    | some t =>
      rw [e] at h1
      cases h1
      refine ⟨t, _, _, rfl, ?_, rfl, rfl⟩
      show (if t ∈ ys then H' t else F t) = _
      rw [if_pos (List.mem_of_getElem? e)]
      exact al.2 i t y e h2
end
/-! ### sum of a tuple; a tuple not at all or once -/
section
open PySem.Spec PyProof.Rows
variable {X : Cx}
def rSumT (K : PySem.W.Frag) : List V → Hp → VK → Prop := fun vs H Q => ∃ (a : Addr) (ns : List Int), vs = [V.ref a] ∧ SqT K H a (ns.map V.int) ∧ Q (.int ns.sum) H
theorem cr_sumT (hc : X.calm = true) : CallR X (.builtin "sum") (rSumT X.K) := by
  intro pins s σ H vs us Q I r h
  obtain ⟨a, ns, rfl, ht, q⟩ := h
  obtain ⟨its, rv, ⟨o, ho, hcl, n, hd⟩, _⟩ := I.tuple ht
  have hi := rv.ints
  obtain ⟨xs, e⟩ := hi.allInts.items
  have hn : numsOf (intItems xs).toList = ns := by rw [← e]; exact hi.numsOf
  rw [nums_intItems] at hn
  rw [e] at hd
  rw [Vals.ref1 r]
  refine PySem.W.ktm_sumG (I.ok.hd hc) ⟨o, ho, hcl, n, hd⟩ fun h' tk t' hk => ?_
  rw [preSum_eq, List.take_of_length_le (by simp), hn]
  exact ⟨.int _, H, I.kept hk, ⟨_, rfl⟩, q⟩
theorem tup_mul1 (l : Addr) (items : Array Value) (n : Nat) (dd : Option Addr) (sl : Array (Option Value)) (u : Tok) (hne : items.isEmpty = false) :
    Meets (Builtin.«tuple.__mul__» ⟨[.ref l, .int 1 u], []⟩) (fun _ R s => s.heap.get? l = some { cls := .type "tuple", dict := dd, data := .seq items n, slots := sl } ∧ R (.ok (.ret (Value.ref l))) s) :=
  .of_wp fun prog w A R s h => by
    obtain ⟨hp, g, d, tk, os⟩ := s
    obtain ⟨hl, h⟩ := h
    have f1 := AutoSeq1.idx_int
    wp_walk using wpAny_loadPart' hl
    exact ⟨_, rfl, h⟩
theorem tup_mul0 (l : Addr) (items : Array Value) (n : Nat) (dd : Option Addr) (sl : Array (Option Value)) (u : Tok) (hne : items.isEmpty = false) :
    Meets (Builtin.«tuple.__mul__» ⟨[.ref l, .int 0 u], []⟩) (fun _ R s => s.heap.get? l = some { cls := .type "tuple", dict := dd, data := .seq items n, slots := sl } ∧
      R (.ok (.ret (Value.ref s.heap.objs.size))) { s with heap := s.heap.push { cls := Value.type "tuple", data := Data.seq #[] }, toks := s.toks }) :=
  .of_wp fun prog w A R s h => by
    obtain ⟨hp, g, d, tk, os⟩ := s
    obtain ⟨hl, h⟩ := h
    have f1 := AutoSeq1.idx_int
    wp_walk using wpAny_loadPart' hl
    exact ⟨_, rfl, h⟩
def rRep01 (K : PySem.W.Frag) : R2 := fun x y H Q => ∃ l k xs, x = .ref l ∧ y = .int k ∧ SqT K H l xs ∧ xs ≠ [] ∧ ((k = 1 ∧ Q (.ref l) H) ∨ (k = 0 ∧ ∀ p, H p = none → Q (.ref p) (upd H p (.tup []))))
theorem op_rep01 : OpR X (binaryOp .Mult) (rRep01 X.K) := by
  intro pins s σ H x y v u Q I rx ry h
  obtain ⟨l, k, xs, rfl, rfl, hT, hne, h⟩ := h
  cases rx
  obtain ⟨tk, rfl⟩ := ry
  obtain ⟨its, r, ⟨⟨cls, dd, data, sl⟩, ho, hc, n, hd⟩, hs⟩ := I.tuple hT
  simp only at hc hd
  subst hc hd
  have hi : its.toArray.isEmpty = false := by
    cases its with
    | nil => have := r.length; exact absurd (List.eq_nil_of_length_eq_zero this) hne
    | cons a b => rfl
  rcases h with ⟨rfl, q⟩ | ⟨rfl, q⟩
  · refine wpAny_binaryOp_repeat_ref (T := "tuple") (U := "int") (by decide) ⟨_, ho, rfl⟩ (fun s' => typeIs_int s' 1 tk) noFill_tuple_mul F.fills_int_mul F.slot_int_rmul repeat_tuple F.slot_int_index.lookup
      (call_meets F.slot_int_rmul (typeIs_int s 1 tk) F.entry_int_rmul (F.args_int_rmul_2 _ _) (int_rmul_tuple 1 tk l its.toArray n dd sl)
        ⟨ho, rfl, ⟨_, ho, rfl⟩, call_meets F.slot_tuple_mul ⟨_, ho, rfl⟩ F.entry_tuple_mul (F.args_tuple_mul_2 _ _) (tup_mul1 l its.toArray n dd sl tk hi) ⟨ho, ?_⟩⟩)
    exact ⟨.ref l, H, I, rfl, q⟩
  · refine wpAny_binaryOp_repeat_ref (T := "tuple") (U := "int") (by decide) ⟨_, ho, rfl⟩ (fun s' => typeIs_int s' 0 tk) noFill_tuple_mul F.fills_int_mul F.slot_int_rmul repeat_tuple F.slot_int_index.lookup
      (call_meets F.slot_int_rmul (typeIs_int s 0 tk) F.entry_int_rmul (F.args_int_rmul_2 _ _) (int_rmul_tuple 0 tk l its.toArray n dd sl)
        ⟨ho, rfl, ⟨_, ho, rfl⟩, call_meets F.slot_tuple_mul ⟨_, ho, rfl⟩ F.entry_tuple_mul (F.args_tuple_mul_2 _ _) (tup_mul0 l its.toArray n dd sl tk hi) ⟨ho, ?_⟩⟩)
    refine ⟨.ref s.heap.objs.size, _, I.laid (t' := s.toks) (o := .tup []) (fun b ob q => Heap.get?_push_of_some _ q) (Nat.le_refl _) ?_, rfl, q _ (I.hok.fresh (Nat.le_refl _))⟩
    exact ⟨nil_le, _, .nil, IsTup.new _ _⟩
end
/-! slices of tuples, +: the ways -/
@[irreducible] def rSlQ (K : PySem.W.Frag) : V → Option Int → Option Int → Hp → VK → Prop := rSlA K
theorem sl_tupQ {X : Cx} : SlR X (rSlQ X.K) := by
  unfold rSlQ
  exact sl_tupA
@[irreducible] def rCatQ (K : PySem.W.Frag) : R2 := rCatA K
theorem op_catQ {X : Cx} : OpR X (binaryOp .Add) (rCatQ X.K) := by
  unfold rCatQ
  exact op_catA
theorem slA_all {K : PySem.W.Frag} {H : Hp} {a : Addr} {xs : List V} {lo hi : Option Int} {Q : VK} (h : SqT K H a xs) (w : HT.sIx xs.length 0 lo = 0 ∧ HT.sIx xs.length xs.length hi = xs.length) (q : Q (.ref a) H) : rSlQ K (.ref a) lo hi H Q := by
  unfold rSlQ
  exact ⟨a, xs, rfl, h, fun _ => q, fun n => absurd w n⟩
theorem slA_cut {K : PySem.W.Frag} {H : Hp} {a : Addr} {xs : List V} {lo hi : Option Int} {Q : VK} (h : SqT K H a xs) (w : ¬ (HT.sIx xs.length 0 lo = 0 ∧ HT.sIx xs.length xs.length hi = xs.length)) (q : ∀ p, H p = none → Q (.ref p) (upd H p (.tup (cutV xs lo hi)))) : rSlQ K (.ref a) lo hi H Q := by
  unfold rSlQ
  exact ⟨a, xs, rfl, h, fun n => absurd n w, fun _ => q⟩
theorem catA_nil {K : PySem.W.Frag} {H : Hp} {a b : Addr} {ys : List V} {Q : VK} (h : SqT K H a []) (h2 : SqT K H b ys) (l : ys.length ≤ sizeLine) (q : Q (.ref b) H) : rCatQ K (.ref a) (.ref b) H Q := by
  unfold rCatQ
  exact ⟨a, b, [], ys, rfl, rfl, h, h2, by simpa using l, fun _ => q, fun n => absurd rfl n, fun n => absurd rfl n⟩
theorem catA_new {K : PySem.W.Frag} {H : Hp} {a b : Addr} {xs ys : List V} {Q : VK} (h : SqT K H a xs) (h2 : SqT K H b ys) (l : xs.length + ys.length ≤ sizeLine) (n1 : xs ≠ []) (n2 : ys ≠ []) (q : ∀ p, H p = none → Q (.ref p) (upd H p (.tup (xs ++ ys)))) : rCatQ K (.ref a) (.ref b) H Q := by
  unfold rCatQ
  exact ⟨a, b, xs, ys, rfl, rfl, h, h2, l, fun e => absurd e n1, fun _ e => absurd e n2, fun _ _ => q⟩
def top (i : Nat) : Stmt := PySem.Challenge.pw_endnever_k13_setups_shown_and_read.main.body.getD i (.Pass ⟨0, 0, 0, 0⟩)
abbrev s_L_mixed : Stmt := top 12
abbrev N_L_mixed : List Str := ["_law_cell", "_law_k", "_law_rest", "_law_number"]
theorem sc_L_mixed : FnScope ["_law_cell", "_law_k", "_law_rest", "_law_number"] ["_law_cell", "_law_k"] (defScope s_L_mixed) := ⟨rfl, rfl, rfl, by decide +kernel, rfl, by decide +kernel, by decide +kernel⟩
abbrev s_L_purse : Stmt := top 13
abbrev N_L_purse : List Str := ["_law_script", "_law_cells", "_law_number", "_law_k"]
theorem sc_L_purse : FnScope ["_law_script", "_law_cells", "_law_number", "_law_k"] ["_law_script"] (defScope s_L_purse) := ⟨rfl, rfl, rfl, by decide +kernel, rfl, by decide +kernel, by decide +kernel⟩
abbrev s_L_draw : Stmt := top 14
abbrev N_L_draw : List Str := ["_law_purse_here", "_law_out_of", "_law_drawn"]
theorem sc_L_draw : FnScope ["_law_purse_here", "_law_out_of", "_law_drawn"] ["_law_purse_here", "_law_out_of"] (defScope s_L_draw) := ⟨rfl, rfl, rfl, by decide +kernel, rfl, by decide +kernel, by decide +kernel⟩
abbrev s_L_place : Stmt := top 16
abbrev N_L_place : List Str := ["_law_purse_here", "_law_size"]
theorem sc_L_place : FnScope ["_law_purse_here", "_law_size"] ["_law_purse_here"] (defScope s_L_place) := ⟨rfl, rfl, rfl, by decide +kernel, rfl, by decide +kernel, by decide +kernel⟩
abbrev s_L_setup : Stmt := top 17
abbrev N_L_setup : List Str := ["_law_purse_here", "_law_many", "_law_place_here", "_law_most", "_law_strip", "_law_k"]
theorem sc_L_setup : FnScope ["_law_purse_here", "_law_many", "_law_place_here", "_law_most", "_law_strip", "_law_k"] ["_law_purse_here"] (defScope s_L_setup) := ⟨rfl, rfl, rfl, by decide +kernel, rfl, by decide +kernel, by decide +kernel⟩
abbrev s_L_setup_text : Stmt := top 18
abbrev N_L_setup_text : List Str := ["_law_setup_here", "_law_words", "_law_place_here", "_law_sign"]
theorem sc_L_setup_text : FnScope ["_law_setup_here", "_law_words", "_law_place_here", "_law_sign"] ["_law_setup_here"] (defScope s_L_setup_text) := ⟨rfl, rfl, rfl, by decide +kernel, rfl, by decide +kernel, by decide +kernel⟩
abbrev s_show_setup : Stmt := top 6
abbrev N_show_setup : List Str := ["setup", "words", "place", "sign"]
theorem sc_show_setup : FnScope ["setup", "words", "place", "sign"] ["setup"] (defScope s_show_setup) := ⟨rfl, rfl, rfl, by decide +kernel, rfl, by decide +kernel, by decide +kernel⟩
abbrev s_must : Stmt := top 7
abbrev N_must : List Str := ["good"]
theorem sc_must : FnScope ["good"] ["good"] (defScope s_must) := ⟨rfl, rfl, rfl, by decide +kernel, rfl, by decide +kernel, by decide +kernel⟩
abbrev s_read_place : Stmt := top 8
abbrev N_read_place : List Str := ["text", "figures", "sign"]
theorem sc_read_place : FnScope ["text", "figures", "sign"] ["text"] (defScope s_read_place) := ⟨rfl, rfl, rfl, by decide +kernel, rfl, by decide +kernel, by decide +kernel⟩
abbrev s_read_sign : Stmt := top 9
abbrev N_read_sign : List Str := ["text", "place", "even", "sign"]
theorem sc_read_sign : FnScope ["text", "place", "even", "sign"] ["text"] (defScope s_read_sign) := ⟨rfl, rfl, rfl, by decide +kernel, rfl, by decide +kernel, by decide +kernel⟩
abbrev s_read_setup : Stmt := top 10
abbrev N_read_setup : List Str := ["text", "words", "strip", "word", "k"]
theorem sc_read_setup : FnScope ["text", "words", "strip", "word", "k"] ["text"] (defScope s_read_setup) := ⟨rfl, rfl, rfl, by decide +kernel, rfl, by decide +kernel, by decide +kernel⟩
abbrev s_L_same : Stmt := top 15
abbrev N_L_same : List Str := ["_law_found", "_law_due", "_law_k"]
theorem sc_L_same : FnScope ["_law_found", "_law_due", "_law_k"] ["_law_found", "_law_due"] (defScope s_L_same) := ⟨rfl, rfl, rfl, by decide +kernel, rfl, by decide +kernel, by decide +kernel⟩
abbrev s_law : Stmt := top 19
abbrev N_law : List Str := ["_law_script", "_law_purse_here", "_law_k", "_law_setup_here", "_law_kept", "_law_due", "_law_turn", "_law_text", "_law_found", "_law_far", "_law_strip", "_law_place_here", "_law_sign", "_law_other"]
theorem sc_law : FnScope ["_law_script", "_law_purse_here", "_law_k", "_law_setup_here", "_law_kept", "_law_due", "_law_turn", "_law_text", "_law_found", "_law_far", "_law_strip", "_law_place_here", "_law_sign", "_law_other"] ["_law_script"] (defScope s_law) := ⟨rfl, rfl, rfl, by decide +kernel, rfl, by decide +kernel, by decide +kernel⟩
/-- what the top has written: where each def stands, what the names hold -/
structure Tx (K : PySem.W.Frag) (mg : Str → Option Value) where
  a_L_mixed : Addr
  fd_L_mixed : FuncData
  F_L_mixed : Fun K "_law_mixed" "_law_mixed" s_L_mixed a_L_mixed fd_L_mixed
  b_L_mixed : Binds K fd_L_mixed ["_law_cell", "_law_k"] []
  m_L_mixed : mg "_law_mixed" = some (.ref a_L_mixed)
  a_L_purse : Addr
  fd_L_purse : FuncData
  F_L_purse : Fun K "_law_purse" "_law_purse" s_L_purse a_L_purse fd_L_purse
  b_L_purse : Binds K fd_L_purse ["_law_script"] []
  m_L_purse : mg "_law_purse" = some (.ref a_L_purse)
  a_L_draw : Addr
  fd_L_draw : FuncData
  F_L_draw : Fun K "_law_draw" "_law_draw" s_L_draw a_L_draw fd_L_draw
  b_L_draw : Binds K fd_L_draw ["_law_purse_here", "_law_out_of"] []
  m_L_draw : mg "_law_draw" = some (.ref a_L_draw)
  a_L_place : Addr
  fd_L_place : FuncData
  F_L_place : Fun K "_law_place" "_law_place" s_L_place a_L_place fd_L_place
  b_L_place : Binds K fd_L_place ["_law_purse_here"] []
  m_L_place : mg "_law_place" = some (.ref a_L_place)
  a_L_setup : Addr
  fd_L_setup : FuncData
  F_L_setup : Fun K "_law_setup" "_law_setup" s_L_setup a_L_setup fd_L_setup
  b_L_setup : Binds K fd_L_setup ["_law_purse_here"] []
  m_L_setup : mg "_law_setup" = some (.ref a_L_setup)
  a_L_setup_text : Addr
  fd_L_setup_text : FuncData
  F_L_setup_text : Fun K "_law_setup_text" "_law_setup_text" s_L_setup_text a_L_setup_text fd_L_setup_text
  b_L_setup_text : Binds K fd_L_setup_text ["_law_setup_here"] []
  m_L_setup_text : mg "_law_setup_text" = some (.ref a_L_setup_text)
  a_show_setup : Addr
  fd_show_setup : FuncData
  F_show_setup : Fun K "show_setup" "show_setup" s_show_setup a_show_setup fd_show_setup
  b_show_setup : Binds K fd_show_setup ["setup"] []
  m_show_setup : mg "show_setup" = some (.ref a_show_setup)
  a_must : Addr
  fd_must : FuncData
  F_must : Fun K "must" "must" s_must a_must fd_must
  b_must : Binds K fd_must ["good"] []
  m_must : mg "must" = some (.ref a_must)
  a_read_place : Addr
  fd_read_place : FuncData
  F_read_place : Fun K "read_place" "read_place" s_read_place a_read_place fd_read_place
  b_read_place : Binds K fd_read_place ["text"] []
  m_read_place : mg "read_place" = some (.ref a_read_place)
  a_read_sign : Addr
  fd_read_sign : FuncData
  F_read_sign : Fun K "read_sign" "read_sign" s_read_sign a_read_sign fd_read_sign
  b_read_sign : Binds K fd_read_sign ["text"] []
  m_read_sign : mg "read_sign" = some (.ref a_read_sign)
  a_read_setup : Addr
  fd_read_setup : FuncData
  F_read_setup : Fun K "read_setup" "read_setup" s_read_setup a_read_setup fd_read_setup
  b_read_setup : Binds K fd_read_setup ["text"] []
  m_read_setup : mg "read_setup" = some (.ref a_read_setup)
  a_L_same : Addr
  fd_L_same : FuncData
  F_L_same : Fun K "_law_same" "_law_same" s_L_same a_L_same fd_L_same
  b_L_same : Binds K fd_L_same ["_law_found", "_law_due"] []
  m_L_same : mg "_law_same" = some (.ref a_L_same)
  a_law : Addr
  fd_law : FuncData
  F_law : Fun K "law" "law" s_law a_law fd_law
  b_law : Binds K fd_law ["_law_script"] []
  m_law : mg "law" = some (.ref a_law)
  C_NoText : Addr
  m_NoText : mg "NoText" = some (.ref C_NoText)
  tk_ROWS : Tok
  m_ROWS : mg "ROWS" = some (.str "ABCD" tk_ROWS)
  tk_FIGURES : Tok
  m_FIGURES : mg "FIGURES" = some (.str "0123456789" tk_FIGURES)
  n_range : mg "range" = none
  n_len : mg "len" = none
  n_abs : mg "abs" = none
  n_str : mg "str" = none
  n_all : mg "all" = none
  n_int : mg "int" = none
  n_isinstance : mg "isinstance" = none
  n_tuple : mg "tuple" = none
  n_list : mg "list" = none
  n_bool : mg "bool" = none
section
variable {P : Program} {w : World} {K : PySem.W.Frag} {mg : Str → Option Value} {base : Heap}
/-! ### draws -/
def sp_L_mixed : Sp := fun vs H Q _ => ∃ c k : Int, vs = [.int c, .int k] ∧ 0 ≤ k ∧ k < 1000 ∧ ∀ n : Int, 0 ≤ n → n < 2147483587 → Q (.int n) H
theorem ok_L_mixed (t : Tx K mg) : FnOk P w K mg base CX0 1 t.a_L_mixed t.fd_L_mixed ["_law_cell", "_law_k"] sp_L_mixed := by
  refine t.F_L_mixed.ok sc_L_mixed (fun vs H Q E h => ?_) (fun cdv A outer s H vs Q E hr h => ?_)
  · obtain ⟨c, k, rfl, _⟩ := h
    rfl
  · obtain ⟨c, k, rfl, k0, k1, q⟩ := h
    refine ⟨_, (pss_cons (ps_set (i := 2) sc_L_mixed.nd rfl (by first | exact Or.inl rfl | exact Or.inr rfl) (pe_op op_mod (pv 0) (pe_op op_pow pe_int pe_int)))
      (pss_cons (ps_set (i := 3) sc_L_mixed.nd rfl (by first | exact Or.inl rfl | exact Or.inr rfl) (pe_op op_mod (pe_op op_mul (pe_op op_add (pe_op op_add (pe_op op_add (pe_op op_mul (pv 2) (pv 2)) (pe_op op_mul pe_int (pv 2))) (pe_op op_mul pe_int (pv 1))) pe_int) pe_int) pe_int))
      (pss_one (ps_ret (pe_op op_mod (pe_op op_add (pe_op op_mul (pv 3) (pv 3)) pe_int) pe_int))))), ?_⟩
    have e15 : (10 : Int) ^ (15 : Int).toNat = 1000000000000000 := by decide
    refine ⟨_, rfl, _, _, rfl, rfl, ⟨by decide, by decide, by decide⟩, _, _, rfl, rfl, (by show (0 : Int) < 10 ^ (15 : Int).toNat; decide), ?_⟩
    rw [e15]
    have h0 : (0 : Int) ≤ c % 1000000000000000 := Int.emod_nonneg _ (by decide)
    have h1 : c % 1000000000000000 < 1000000000000000 := Int.emod_lt_of_pos _ (by decide)
    generalize c % 1000000000000000 = r at h0 h1
    refine ⟨_, rfl, _, rfl, _, _, rfl, rfl, .inl ⟨by omega, by omega⟩, _, rfl, _, _, rfl, rfl, .inl ⟨by decide, by decide⟩, _, _, rfl, rfl, _, rfl, _, _, rfl, rfl, .inl ⟨by decide, by decide⟩, _, _, rfl, rfl, _, _, rfl, rfl,
      _, _, rfl, rfl, .inr ⟨by decide, by decide⟩, _, _, rfl, rfl, (by show (0 : Int) < 2147483629; decide), ?_⟩
    have g0 := Int.emod_nonneg ((r * r + 3 * r + 7919 * k + 1) * 48271) (show (2147483629 : Int) ≠ 0 by decide)
    have g1 := Int.emod_lt_of_pos ((r * r + 3 * r + 7919 * k + 1) * 48271) (show (0 : Int) < 2147483629 by decide)
    generalize (r * r + 3 * r + 7919 * k + 1) * 48271 % 2147483629 = n at g0 g1
    refine ⟨_, rfl, _, rfl, _, _, rfl, rfl, .inl ⟨by omega, by omega⟩, _, _, rfl, rfl, _, _, rfl, rfl, (by show (0 : Int) < 2147483587; decide), ?_⟩
    exact q _ (Int.emod_nonneg _ (by decide)) (Int.emod_lt_of_pos _ (by decide))
/-- the purse: two numbers that aren't below 0 -/
def PurseO (a b : Int) : HO := .lst [.int a, .int b]
def sp_L_purse (K : PySem.W.Frag) : Sp := fun vs H Q _ => ∃ (l : Addr) (ns : List Int), vs = [.ref l] ∧ SqL K H l (ns.map V.int) ∧ ns.length ≤ 63 ∧
  ∀ (a b : Int) (p : Addr) (H' : Hp), 0 ≤ a → 0 ≤ b → Same H H' → H p = none → H' p = some (PurseO a b) → Q (.ref p) H'
theorem ok_L_purse (t : Tx K mg) : FnOk P w K mg base CX0 2 t.a_L_purse t.fd_L_purse ["_law_script"] (sp_L_purse K) := by
  refine t.F_L_purse.ok sc_L_purse (fun vs H Q E h => ?_) (fun cdv A outer s H vs Q E hr h => ?_)
  · obtain ⟨l, ns, rfl, _⟩ := h
    rfl
  · obtain ⟨l, ns, rfl, hS, hn, q⟩ := h
    refine ⟨_, (pss_cons (ps_set (i := 1) sc_L_purse.nd rfl (by first | exact Or.inl rfl | exact Or.inr rfl) (pe_op op_cat (pe_slice sl_list (pv 0) po_none (po_some pe_int)) (pe_lst (pa_cons pe_int pa_nil))))
      (pss_cons (ps_set (i := 2) sc_L_purse.nd rfl (by first | exact Or.inl rfl | exact Or.inr rfl) pe_int)
      (pss_cons (ps_for PassesOwn.never rfl (pi_range1 (by rfl) t.n_range (pa_cons pe_int pa_nil)) (pg_name (i := 3) sc_L_purse.nd rfl (by first | exact Or.inl rfl | exact Or.inr rfl)) (pss_one (ps_set (i := 2) sc_L_purse.nd rfl (by first | exact Or.inl rfl | exact Or.inr rfl) (pe_op op_add (pe_op op_mul (pv 2) pe_int) (pe_call (ok_L_mixed t) (hr.mono (by decide)) (by rfl) t.m_L_mixed t.F_L_mixed.kp t.b_L_mixed .nil pass0 (pa_cons (pe_ix ix_list (pv 1) (pe_op op_mod (pv 3) (pe_callB (id := "len") call_lenQ (by rfl) t.n_len (by decide +kernel) (pa_cons (pv 1) pa_nil))) (fun _ _ => rfl)) (pa_cons (pv 3) pa_nil)))))))
      (pss_cons (ps_if (pt_cmpR op_ge (pe_callB (id := "abs") call_abs (by rfl) t.n_abs (by decide +kernel) (pa_cons (pe_ix ix_list (pv 1) pe_int (fun _ _ => rfl)) pa_nil)) (pe_op op_pow pe_int pe_int) (nomark _)) (pss_one (ps_ret (pe_lst (pa_cons (pe_callB (id := "abs") call_abs (by rfl) t.n_abs (by decide +kernel) (pa_cons (pe_ix ix_list (pv 1) pe_int (fun _ _ => rfl)) pa_nil)) (pa_cons (pv 2) pa_nil))))) pss_nil)
      (pss_one (ps_ret (pe_lst (pa_cons (pv 2) (pa_cons (pv 2) pa_nil))))))))), ?_⟩
    refine ⟨_, rfl, _, rfl, l, _, rfl, hS, fun p np => ?_⟩
    rw [cut_63 hn]
    have e0 : ([V.int 0] : List V) = [(0 : Int)].map V.int := rfl
    refine ⟨by show 1 ≤ sizeLine; decide, fun p2 np2 => ⟨p, p2, _, _, rfl, rfl, (by rw [upd_ne (ne_of_none upd_same np2)]; exact upd_same), upd_same, (by show _ + 1 ≤ _; rw [List.length_map]; exact Nat.le_trans (Nat.add_le_add_right hn 1) (by decide)), fun p3 np3 => ?_⟩⟩
    rw [e0, ← List.map_append]
    have s3 : Same H (upd (upd (upd H p (.lst (ns.map V.int))) p2 (.lst ([(0 : Int)].map V.int))) p3 (.lst ((ns ++ [0]).map V.int))) := sm_new (sm_new (sm_new (Same.refl H) np) np2) np3
    have hl : 0 < (ns ++ [0]).length := by simp
    generalize ec : ns ++ [0] = cs at s3 hl
    have h3 : (upd (upd (upd H p (.lst (ns.map V.int))) p2 (.lst ([(0 : Int)].map V.int))) p3 (.lst (cs.map V.int))) p3 = some (.lst (cs.map V.int)) := upd_same
    generalize upd (upd (upd H p (.lst (ns.map V.int))) p2 (.lst ([(0 : Int)].map V.int))) p3 (.lst (cs.map V.int)) = H3 at s3 h3
    refine ⟨64, rfl, by decide, by decide, for_range (lo := 0) (n := 64) (fun i σ H2 => ∃ (n : Int) (v : Option V), σ = [some (.ref l), some (.ref p3), some (.int n), v] ∧ H2 = H3 ∧ 0 ≤ n) ⟨1, none, rfl, rfl, by decide⟩ ?_ ?_⟩
    · rintro i σ H2 hi ⟨n, v, rfl, rfl, hn0⟩
      refine ⟨_, rfl, _, _, rfl, rfl, .inr ⟨by decide, by decide⟩, ?_⟩
      have hm := Int.emod_nonneg (0 + (i : Int)) (show ((cs.map V.int).length : Int) ≠ 0 by rw [List.length_map]; omega)
      have hm1 := Int.emod_lt_of_pos (0 + (i : Int)) (show (0 : Int) < ((cs.map V.int).length : Int) by rw [List.length_map]; omega)
      have hj : (((0 + (i : Int)) % ((cs.map V.int).length : Int)).toNat : Int) = (0 + (i : Int)) % ((cs.map V.int).length : Int) := Int.toNat_of_nonneg hm
      have hj1 : ((0 + (i : Int)) % ((cs.map V.int).length : Int)).toNat < cs.length := by rw [List.length_map] at hm1 ⊢; omega
      refine ⟨_, rfl, _, rfl, _, rfl, p3, _, rfl, .inl (SqL.of h3), _, _, rfl, rfl, (by rw [List.length_map]; omega), p3, _, _, _, rfl, rfl, SqL.of h3, at_of hj.symm (by rw [List.getElem?_map, List.getElem?_eq_getElem hj1]; rfl), ?_⟩
      refine ⟨_, rfl, _, _, rfl, by omega, by omega, fun m m0 m1 => ⟨_, _, rfl, rfl, ?_⟩⟩
      exact ⟨_, _, rfl, rfl, by omega⟩
    · rintro σ H2 ⟨n, v, rfl, rfl, hn0⟩
      have h0 : (cs.map V.int)[0]? = some (.int (cs[0])) := by rw [List.getElem?_map, List.getElem?_eq_getElem hl]; rfl
      refine ⟨_, rfl, p3, _, _, _, rfl, rfl, SqL.of h3, atI_nat (j := 0) h0, _, rfl, _, _, rfl, rfl, ⟨by decide, by decide, by decide⟩, _, _, rfl, rfl, _, rfl, ?_⟩
      refine ite2 (fun c => ?_) (fun c => ?_)
      · refine ⟨_, rfl, p3, _, _, _, rfl, rfl, SqL.of h3, atI_nat (j := 0) h0, _, rfl, _, rfl, by show 2 ≤ sizeLine; decide, fun q0 nq => ?_⟩
        exact q _ _ q0 _ (by split <;> omega) hn0 (sm_new s3 nq) (s3.free nq) upd_same
      · refine ⟨_, rfl, _, rfl, by show 2 ≤ sizeLine; decide, fun q0 nq => ?_⟩
        exact q _ _ q0 _ hn0 hn0 (sm_new s3 nq) (s3.free nq) upd_same
def sp_L_draw : Sp := fun vs H Q _ => ∃ (p : Addr) (a b n : Int), vs = [.ref p, .int n] ∧ H p = some (PurseO a b) ∧ 0 ≤ a ∧ 0 ≤ b ∧ 0 < n ∧ n < 2535301200456458802993406410752 ∧
  ∀ d a' b' : Int, 0 ≤ d → d < n → 0 ≤ a' → 0 ≤ b' → Q (.int d) (upd H p (PurseO a' b'))
theorem ok_L_draw (t : Tx K mg) : FnOk P w K mg base CX0 1 t.a_L_draw t.fd_L_draw ["_law_purse_here", "_law_out_of"] sp_L_draw := by
  refine t.F_L_draw.ok sc_L_draw (fun vs H Q E h => ?_) (fun cdv A outer s H vs Q E hr h => ?_)
  · obtain ⟨p, a, b, n, rfl, _⟩ := h
    rfl
  · obtain ⟨p, a, b, n, rfl, hp, ha, hb, n0, n1, q⟩ := h
    refine ⟨_, (pss_cons (ps_if (pt_cmpR op_eq (pe_ix ix_list (pv 0) pe_int (fun _ _ => rfl)) pe_int (nomark _)) (pss_one (ps_asg (pe_ix ix_list (pv 0) pe_int (fun _ _ => rfl)) (pg_sub (pv 0) pe_int set_list))) pss_nil)
      (pss_cons (ps_set (i := 2) sc_L_draw.nd rfl (by first | exact Or.inl rfl | exact Or.inr rfl) (pe_op op_mod (pe_ix ix_list (pv 0) pe_int (fun _ _ => rfl)) (pv 1)))
      (pss_cons (ps_asg (pe_op op_fdivW (pe_ix ix_list (pv 0) pe_int (fun _ _ => rfl)) (pv 1)) (pg_sub (pv 0) pe_int set_list))
      (pss_one (ps_ret (pv 2)))))), ?_⟩
    refine ⟨_, rfl, p, _, _, _, rfl, rfl, SqL.of hp, atI_nat (j := 0) rfl, rfl, _, rfl, ?_⟩
    refine ite2 (fun c => ?_) (fun c => ?_)
    · refine ⟨_, rfl, p, _, _, _, rfl, rfl, SqL.of hp, atI_nat (j := 1) rfl, _, rfl, p, _, _, 0, rfl, rfl, hp, rfl, ?_⟩
      refine ⟨_, rfl, p, _, _, _, rfl, rfl, SqL.of upd_same, atI_nat (j := 0) rfl, _, rfl, _, _, rfl, rfl, n0, ?_⟩
      refine ⟨_, rfl, p, _, _, _, rfl, rfl, SqL.of upd_same, atI_nat (j := 0) rfl, _, rfl, _, _, rfl, rfl, wide_div n0 (b := 101) (by have e : (2 : Nat) ^ 101 = 2535301200456458802993406410752 := rfl; rw [e]; omega) (by decide) (by decide), _, rfl, p, _, _, 0, rfl, rfl, upd_same, rfl, _, rfl, ?_⟩
      rw [upd_upd]
      exact q _ _ _ (Int.emod_nonneg _ (by omega)) (Int.emod_lt_of_pos _ n0) (Int.ediv_nonneg hb (by omega)) hb
    · refine ⟨_, rfl, p, _, _, _, rfl, rfl, SqL.of hp, atI_nat (j := 0) rfl, _, rfl, _, _, rfl, rfl, n0, ?_⟩
      refine ⟨_, rfl, p, _, _, _, rfl, rfl, SqL.of hp, atI_nat (j := 0) rfl, _, rfl, _, _, rfl, rfl, wide_div n0 (b := 101) (by have e : (2 : Nat) ^ 101 = 2535301200456458802993406410752 := rfl; rw [e]; omega) (by decide) (by decide), _, rfl, p, _, _, 0, rfl, rfl, hp, rfl, _, rfl, ?_⟩
      exact q _ _ _ (Int.emod_nonneg _ (by omega)) (Int.emod_lt_of_pos _ n0) (Int.ediv_nonneg ha (by omega)) hb
/-! ### numbers as texts, their signs -/
theorem tl_pos {i : Int} (h : 0 ≤ i) : TL.tl (toString i : Str) = TL.numL i.natAbs := by
  obtain ⟨n, rfl⟩ := Int.eq_ofNat_of_zero_le h
  exact TL.tl_num n
theorem tl_neg {i : Int} (h : i < 0) : TL.tl (toString i : Str) = 45 :: TL.numL i.natAbs := by
  cases i with
  | ofNat n => exact absurd (Int.natCast_nonneg n) (by have h : (n : Int) < 0 := h; omega)
  | negSucc n =>
    show (Str.ofString (toString (Int.negSucc n))).cps.toList = _
    rw [PyProof.Rows.signs_ofString]
    show (String.append "-" (toString (n + 1))).toList.map Char.toNat = _
    rw [show (String.append "-" (toString (n + 1))) = "-" ++ toString (n + 1) from rfl, String.toList_append, List.map_append]
    show 45 :: (toString (n + 1)).toList.map Char.toNat = _
    have e := TL.tl_num (n + 1)
    rw [show TL.tl (Str.ofString (toString ((n + 1 : Nat) : Int))) = (Str.ofString (toString ((n + 1 : Nat) : Int))).cps.toList from rfl, PyProof.Rows.signs_ofString] at e
    have e : (toString (n + 1)).toList.map Char.toNat = TL.numL (n + 1) := e
    rw [e]
    rfl
theorem numL_head {n : Nat} (h : n ≠ 0) : ∃ c r, TL.numL n = c :: r ∧ c ≠ 48 := by
  induction n using Nat.strongRecOn with
  | _ n ih =>
    by_cases h1 : n < 10
    · rw [TL.numL_lt h1]
      exact ⟨48 + n, [], rfl, by omega⟩
    · obtain ⟨c, r, e, hc⟩ := ih (n / 10) (by omega) (by omega)
      rw [TL.numL_step (by omega), e]
      exact ⟨c, _, rfl, hc⟩
theorem int_back {i : Int} (h : i.natAbs < 1000000000) : PySem.intText? (toString i : Str) = some i := by
  have hl := TL.numL_len (k := 9) (n := i.natAbs) (by decide) h
  by_cases h0 : 0 ≤ i
  · obtain ⟨n, rfl⟩ := Int.eq_ofNat_of_zero_le h0
    exact TL.int_num (by show (TL.numL n).length ≤ 4300; have : (TL.numL n).length ≤ 9 := hl; omega)
  · have e := tl_neg (i := i) (by omega)
    have z := PySem.intText_neg (x := (toString i : Str)) e (TL.numL_digits _) (TL.numL_ne _) (by
      rw [TL.len_tl, e, List.length_cons]; omega)
    rw [z, TL.numL_val]
    congr 1
    omega
theorem tl_len {i : Int} {k : Nat} (hk : 0 < k) (h : i.natAbs < 10 ^ k) : (toString i : Str).length ≤ k + 1 := by
  have hl := TL.numL_len (k := k) (n := i.natAbs) hk h
  by_cases h0 : 0 ≤ i
  · rw [TL.len_tl, tl_pos h0]; omega
  · rw [TL.len_tl, tl_neg (by omega), List.length_cons]; omega
theorem tl_len31 {i : Int} (h : i.natAbs < 10000000000000000000000000000000) : (toString i : Str).length ≤ 32 := tl_len (k := 31) (by decide) (by
  rw [show (10 : Nat) ^ 31 = 10000000000000000000000000000000 by decide]; exact h)
theorem log31 {i : Int} (h : i.natAbs < 10000000000000000000000000000000) : i.natAbs.log2 < 1920 := by
  by_cases e : i.natAbs = 0
  · rw [e]; decide +kernel
  · have z := (Nat.log2_lt (k := 104) e).mpr (by
      rw [show (2 : Nat) ^ 104 = 20282409603651670423947251286016 by decide]; omega)
    omega
theorem no_sign {k : Nat} (hk : k ≠ 45 ∧ (k < 48 ∨ 57 < k)) (i : Int) : k ∉ TL.tl (toString i : Str) := PyProof.Rows.int_text_free' k hk i
/-! ### small things -/
theorem ln {H : Hp} {p q : Addr} {o u : HO} (n : H q = none) (h : H p = some o) : upd H q u p = some o := (upd_ne (ne_of_none h n)).trans h
theorem kt_int_int {K : PySem.W.Frag} : PySem.W.kitOne K (.type "int") (.type "int") = some true := kit_ty (by decide +kernel)
theorem kt_int_bool {K : PySem.W.Frag} : PySem.W.kitOne K (.type "int") (.type "bool") = some false := kit_ty (by decide +kernel)
theorem kt_tup {K : PySem.W.Frag} : PySem.W.kitOne K (.type "tuple") (.type "tuple") = some true := kit_ty (by decide +kernel)
theorem kt_list {K : PySem.W.Frag} : PySem.W.kitOne K (.type "list") (.type "list") = some true := kit_ty (by decide +kernel)
theorem gr_purse {H H1 : Hp} (s : Same H H1) : Gr mu0 H H H H1 := ⟨fun _ _ h => h, s, fun _ _ h => .inl h, fun c o h _ => s c o h, fun c h => s.free h⟩
theorem at_end {xs : List V} {k : Nat} {v : V} (l : xs.length = k + 1) (h : xs[k]? = some v) : atI xs (-1) = some v := by
  have e : ixN xs.length (-1) = some k := by
    unfold ixN
    rw [if_neg (by decide), if_pos (by omega)]
    congr 1
    omega
  unfold atI
  rw [e]
  exact h
theorem cut_all {xs : List V} {j : Nat} (h : xs.length ≤ j) : cutV xs none (some (j : Int)) = xs := by
  unfold cutV
  have e1 : HT.sIx xs.length 0 none = 0 := rfl
  have e2 : HT.sIx xs.length xs.length (some (j : Int)) = xs.length := by
    simp only [HT.sIx]
    rw [if_neg (by omega), Int.toNat_natCast]
    omega
  rw [e1, e2, List.drop_zero, Nat.sub_zero, List.take_length]
theorem map_take_succ {α β : Type} {f : α → β} {xs : List α} {i : Nat} {x : α} (h : xs[i]? = some x) : (xs.take (i + 1)).map f = (xs.take i).map f ++ [f x] := by
  rw [List.take_add_one, h, List.map_append]; rfl
theorem cut_1 {xs : List V} : cutV xs (some 1) none = xs.drop 1 := by
  unfold cutV
  have e2 : HT.sIx xs.length xs.length none = xs.length := rfl
  rw [e2]
  cases xs with
  | nil => simp
  | cons x xs =>
    have e1 : HT.sIx (x :: xs).length 0 (some 1) = 1 := by
      simp only [HT.sIx, List.length_cons]
      rw [if_neg (by decide), show (1 : Int).toNat = 1 from rfl]
      omega
    rw [e1]
    show (xs.take (xs.length + 1 - 1)) = xs
    rw [Nat.add_sub_cancel, List.take_length]
theorem cut32 : ¬ (HT.sIx 3 0 none = 0 ∧ HT.sIx 3 3 (some 2) = 3) := by decide
theorem Gr.frzS {mu : Addr → Prop} {F H F1 H1 : Hp} (g : Gr mu F H F1 H1) (P : Addr → Prop) [DecidablePred P] (h : ∀ c, P c → H c = none ∧ F1 c = none) : Gr mu F H (fun c => if P c then H1 c else F1 c) H1 ∧ Same F1 (fun c => if P c then H1 c else F1 c) := by
  have s : Same F1 (fun c => if P c then H1 c else F1 c) := fun c o e => by
    by_cases p : P c
    · rw [(h c p).2] at e; cases e
    · simp only [p, if_false]; exact e
  refine ⟨⟨fun c o e => s c o (g.ff c o e), fun c o e => ?_, fun c o e => ?_, g.fr, g.th⟩, s⟩
  · by_cases p : P c
    · simp only [p, if_true] at e; exact e
    · simp only [p, if_false] at e; exact g.fh c o e
  · by_cases p : P c
    · exact .inr (h c p).1
    · simp only [p, if_false] at e; exact g.nw c o e
theorem Gr.pf {mu : Addr → Prop} {F H F1 H1 : Hp} {p : Addr} {o : HO} (g : Gr mu F H F1 H1) (f : F p = none) (h : H p = some o) : F1 p = none := by
  cases e : F1 p with
  | none => rfl
  | some z =>
    rcases g.nw p z e with k | k
    · rw [f] at k; cases k
    · rw [h] at k; cases k
theorem four_le : 4 ≤ sizeLine := by decide
/-! ### rows as letters; lengths of joined texts -/
def rowT (r : Int) : Str := if r = 0 then "A" else if r = 1 then "B" else if r = 2 then "C" else "D"
theorem rowT_at {r : Int} (h0 : 0 ≤ r) (h1 : r < 4) : ∃ c, atI ("ABCD" : Str).cps.toList r = some c ∧ (⟨#[c]⟩ : Str) = rowT r := by
  have h : r = 0 ∨ r = 1 ∨ r = 2 ∨ r = 3 := by omega
  rcases h with rfl | rfl | rfl | rfl
  · exact ⟨65, by decide +kernel, by decide +kernel⟩
  · exact ⟨66, by decide +kernel, by decide +kernel⟩
  · exact ⟨67, by decide +kernel, by decide +kernel⟩
  · exact ⟨68, by decide +kernel, by decide +kernel⟩
theorem rowT_len (r : Int) : (rowT r).length = 1 := by
  unfold rowT
  split
  · decide +kernel
  split
  · decide +kernel
  split
  · decide +kernel
  · decide +kernel
theorem str_len_app (a b : Str) : (a ++ b).length = a.length + b.length := by
  show (a.cps ++ b.cps).size = _
  rw [Array.size_append]; rfl
theorem sum_le_all {l : List Nat} {k : Nat} (h : ∀ x ∈ l, x ≤ k) : l.sum ≤ l.length * k := by
  induction l with
  | nil => exact Nat.zero_le _
  | cons x l ih =>
    have h1 := ih fun y m => h y (List.mem_cons_of_mem _ m)
    have h2 := h x List.mem_cons_self
    rw [List.sum_cons, List.length_cons, Nat.add_mul]
    omega
theorem join_le (sep : Str) (ws : List Str) {k : Nat} (h : ∀ x ∈ ws, x.length ≤ k) : (ws.map (·.length)).sum + ws.length * sep.length ≤ ws.length * (k + sep.length) := by
  have z := sum_le_all (l := ws.map (·.length)) (k := k) fun x m => by
    obtain ⟨y, hy, rfl⟩ := List.mem_map.mp m
    exact h y hy
  rw [List.length_map] at z
  rw [Nat.mul_add]
  omega
theorem join_len_le (sep : Str) (ws : List Str) {k : Nat} (h : ∀ x ∈ ws, x.length ≤ k) : (Txt.join sep ws).length ≤ ws.length * (k + sep.length) := by
  refine Nat.le_trans ?_ (join_le sep ws h)
  rw [TL.join_eq]
  exact StrLaws.join_length_le sep ws
theorem blank_len : (" " : Str).length = 1 := by decide +kernel
theorem mt1 {α β : Type} {f : α → β} {l : List α} {i : Nat} {x : α} (h : l[i]? = some x) : (l.take (i + 1)).map f = (l.take i).map f ++ [f x] := by
  rw [List.take_add_one, h, List.map_append]; rfl
theorem mt2 {α : Type} {f : α → Bool} {l : List α} {i : Nat} {x : α} (h : l[i]? = some x) : ((l.take i).map f).map V.bl ++ [V.bl (f x)] = ((l.take (i + 1)).map f).map V.bl := by
  rw [mt1 h, List.map_append]; rfl
theorem all_id {α : Type} (f : α → Bool) (l : List α) : (l.map f).all id = l.all f := by rw [List.all_map]; rfl
theorem mt3 {α : Type} {f : α → Str} {l : List α} {i : Nat} {x : α} (h : l[i]? = some x) : ((l.take i).map f).map V.str ++ [V.str (f x)] = ((l.take (i + 1)).map f).map V.str := by
  rw [mt1 h, List.map_append]; rfl
/-! ### setups as texts -/
abbrev Setup := T3 Int Int (List PI)
def eqT (c : PI) : Str := (toString c.a : Str) ++ ("=" : Str) ++ (toString c.b : Str)
def wordsT (x : Setup) : List Str := rowT x.a :: (toString x.b : Str) :: x.c.map eqT
def setT (x : Setup) : Str := Txt.join " " (wordsT x)
/-- numbers of no more than 31 figures -/
abbrev B31 (i : Int) : Prop := i.natAbs < 10000000000000000000000000000000
structure SetOk (x : Setup) : Prop where
  a0 : 0 ≤ x.a
  a1 : x.a < 4
  b : B31 x.b
  c : ∀ c ∈ x.c, B31 c.a ∧ B31 c.b
  n : x.c.length ≤ 40
theorem eqT_len {c : PI} (h : B31 c.a ∧ B31 c.b) : (eqT c).length ≤ 65 := by
  have h1 := tl_len31 h.1
  have h2 := tl_len31 h.2
  unfold eqT
  rw [str_len_app, str_len_app]
  have : ("=" : Str).length = 1 := by decide +kernel
  omega
theorem words_len {x : Setup} (h : SetOk x) : ∀ y ∈ wordsT x, y.length ≤ 65 := fun y m => by
  rcases List.mem_cons.mp m with rfl | m
  · rw [rowT_len]; decide
  rcases List.mem_cons.mp m with rfl | m
  · have := tl_len31 h.b
    omega
  · obtain ⟨c, hc, rfl⟩ := List.mem_map.mp m
    exact eqT_len (h.c c hc)
theorem words_sum {x : Setup} (h : SetOk x) : ((wordsT x).map (·.length)).sum + (wordsT x).length * (" " : Str).length ≤ 16777216 := by
  have z := join_le " " (wordsT x) (words_len h)
  have n := h.n
  have e : (wordsT x).length = x.c.length + 2 := by show (List.map eqT x.c).length + 1 + 1 = _; rw [List.length_map]
  rw [e] at z ⊢
  rw [blank_len] at z ⊢
  omega
def sp_show_setup : Sp := fun vs H Q _ => ∃ (F : Hp) (v : V) (x : Setup), vs = [v] ∧ Same F H ∧ Is F v x ∧ SetOk x ∧ ∀ H', Gr mu0 F H F H' → Q (.str (setT x)) H'
theorem ok_show_setup (t : Tx K mg) : FnOk P w K mg base CX0 1 t.a_show_setup t.fd_show_setup ["setup"] sp_show_setup := by
  refine t.F_show_setup.ok sc_show_setup (fun vs H Q E h => ?_) (fun cdv A outer s H vs Q E hr h => ?_)
  · obtain ⟨F, v, x, rfl, _⟩ := h
    rfl
  · obtain ⟨F, v, x, rfl, sF, hv, hx, q⟩ := h
    refine ⟨_, (pss_cons (ps_set (i := 1) sc_show_setup.nd rfl (by first | exact Or.inl rfl | exact Or.inr rfl) (pe_lst (pa_cons (pe_ix ix_str (pe_glob (v := .str "ABCD") (by rfl) t.m_ROWS ⟨_, rfl⟩) (pe_ix ix_tup (pv 0) pe_int (fun _ _ => rfl)) (fun _ _ => rfl)) (pa_cons (pe_callTy (T := "str") call_str_int (by rfl) t.n_str (by decide +kernel) (pa_cons (pe_ix ix_tup (pv 0) pe_int (fun _ _ => rfl)) pa_nil)) pa_nil))))
      (pss_one (ps_ret (pe_join pe_str (pe_op op_cat (pv 1) (pe_lc (own := [("place", 2), ("sign", 3)]) (tt := tYes) rfl sc_show_setup.nd (pi_list (pe_ix ix_tup (pv 0) pe_int (fun _ _ => rfl))) (blkOk_by (N := N_show_setup) (sc := defScope s_show_setup) (by decide +kernel)) (fun _ _ _ _ _ => (pg_tupK (K := K) (n := 2) rfl rfl (pgs_cons (pg_name (i := 2) sc_show_setup.nd rfl (by first | exact Or.inl rfl | exact Or.inr rfl)) (pgs_cons (pg_name (i := 3) sc_show_setup.nd rfl (by first | exact Or.inl rfl | exact Or.inr rfl)) pgs_nil)))) (fun _ _ _ _ _ => pts_nil) (fun _ _ _ _ _ => (pe_op op_add_str (pe_op op_add_str (pe_callTy (T := "str") call_str_int (by rfl) t.n_str (by decide +kernel) (pa_cons (pv 2) pa_nil)) pe_str) (pe_callTy (T := "str") call_str_int (by rfl) t.n_str (by decide +kernel) (pa_cons (pv 3) pa_nil)))))))))), ?_⟩
    have g0 : Gr mu0 F H F H := Gr.refl sF
    obtain ⟨p, x1, x2, x3, rfl, hp, e1, e2, l, cs, rfl, hl, hcs⟩ := hv
    have e1 : x1 = .int x.a := e1
    have e2 : x2 = .int x.b := e2
    subst e1
    subst e2
    have hT := SqT.of (K := K) (g0.fh _ _ hp)
    obtain ⟨c1, hc1, ec1⟩ := rowT_at hx.a0 hx.a1
    refine ⟨_, rfl, p, _, _, _, rfl, rfl, hT, atI_nat (j := 0) rfl, _, _, c1, rfl, rfl, by decide +kernel, hc1, ?_⟩
    rw [ec1]
    refine ⟨_, rfl, p, _, _, _, rfl, rfl, hT, atI_nat (j := 1) rfl, _, rfl, log31 hx.b, two_le, fun W nW => ?_⟩
    have g1 := g0.own (o := .lst [.str (rowT x.a), .str (toString x.b)]) nW
    have hW : (upd H W (.lst [.str (rowT x.a), .str (toString x.b)])) W = some (.lst [.str (rowT x.a), .str (toString x.b)]) := upd_same
    generalize upd H W (.lst [.str (rowT x.a), .str (toString x.b)]) = H1 at g1 hW ⊢
    refine ⟨⟨_, rfl⟩, _, rfl, _, rfl, p, _, _, _, rfl, rfl, SqT.of (g1.fh _ _ hp), atI_nat (j := 2) rfl, l, rfl, ⟨_, SqL.of (g1.fh _ _ hl)⟩, fun D nD => lc_list (K := K) (a := l) (xs := cs) (fun i G => Gr mu0 F H F G ∧ G W = some (.lst [.str (rowT x.a), .str (toString x.b)]) ∧ H D = none ∧ W ≠ D ∧ G D = some (.lst (((x.c.take i).map eqT).map V.str))) ⟨g1.own nD, ln nD hW, g1.th _ nD, ne_of_none hW nD, upd_same⟩ (fun i G _ p => SqL.of (p.1.fh _ _ hl)) ?_ ?_⟩
    · rintro i y G hi ⟨g, hWG, nD0, WD, hD⟩
      obtain ⟨c, hc, b, y1, y2, rfl, hb, d1, d2⟩ := hcs.get' hi
      have d1 : y1 = .int c.a := d1
      have d2 : y2 = .int c.b := d2
      subst d1
      subst d2
      have hcc := hx.c c (List.mem_of_getElem? hc)
      have l1 := tl_len31 hcc.1
      have l2 := tl_len31 hcc.2
      have le1 : ("=" : Str).length = 1 := by decide +kernel
      have lcs : cs.length = x.c.length := hcs.1
      have il := (List.getElem?_eq_some_iff.mp hi).1
      have n40 := hx.n
      refine ⟨b, _, rfl, SqT.of (g.fh _ _ hb), rfl, _, _, rfl, _, _, rfl, rfl, rfl, yes ⟨_, rfl, _, rfl, log31 hcc.1, _, _, rfl, rfl, by rw [le1]; exact le_size (by omega), _, rfl, _, rfl, log31 hcc.2, _, _, rfl, rfl, by rw [str_len_app, le1]; exact le_size (by omega), ?_⟩⟩
      refine ⟨_, hD, by rw [List.length_map, List.length_map, List.length_take]; exact lt_size (by omega), ?_⟩
      rw [show V.str ((toString c.a : Str) ++ ("=" : Str) ++ (toString c.b : Str)) = V.str (eqT c) from rfl, mt3 (f := eqT) hc]
      exact ⟨g.set (sF.free nD0) (.inl nD0), by rw [upd_ne WD]; exact hWG, nD0, WD, upd_same⟩
    · rintro G ⟨g, hWG, nD0, WD, hD⟩
      rw [hcs.1, List.take_length] at hD
      refine ⟨W, D, _, _, rfl, rfl, hWG, hD, by show 2 + _ ≤ sizeLine; have := hx.n; rw [List.length_map, List.length_map]; exact le_size (by omega), fun U nU => ?_⟩
      refine ⟨_, U, wordsT x, rfl, rfl, .inl (SqL.of upd_same), words_sum hx, ?_⟩
      exact q _ (g.own nU)
def sp_L_setup_text : Sp := sp_show_setup
theorem ok_L_setup_text (t : Tx K mg) : FnOk P w K mg base CX0 1 t.a_L_setup_text t.fd_L_setup_text ["_law_setup_here"] sp_L_setup_text := by
  refine t.F_L_setup_text.ok sc_L_setup_text (fun vs H Q E h => ?_) (fun cdv A outer s H vs Q E hr h => ?_)
  · obtain ⟨F, v, x, rfl, _⟩ := h
    rfl
  · obtain ⟨F, v, x, rfl, sF, hv, hx, q⟩ := h
    refine ⟨_, (pss_cons (ps_set (i := 1) sc_L_setup_text.nd rfl (by first | exact Or.inl rfl | exact Or.inr rfl) (pe_lst (pa_cons (pe_ix ix_str pe_str (pe_ix ix_tup (pv 0) pe_int (fun _ _ => rfl)) (fun _ _ => rfl)) (pa_cons (pe_callTy (T := "str") call_str_int (by rfl) t.n_str (by decide +kernel) (pa_cons (pe_ix ix_tup (pv 0) pe_int (fun _ _ => rfl)) pa_nil)) pa_nil))))
      (pss_cons (ps_for PassesOwn.never rfl (pi_list (pe_ix ix_tup (pv 0) pe_int (fun _ _ => rfl))) (pg_tup rfl (pgs_cons (pg_name (i := 2) sc_L_setup_text.nd rfl (by first | exact Or.inl rfl | exact Or.inr rfl)) (pgs_cons (pg_name (i := 3) sc_L_setup_text.nd rfl (by first | exact Or.inl rfl | exact Or.inr rfl)) pgs_nil))) (pss_one (ps_expr (pe_bm PySem.F.plainAttrs_list PySem.F.slot_list_append PySem.F.type_list_append mt_append (pv 1) (pa_cons (pe_op op_add_str (pe_op op_add_str (pe_callTy (T := "str") call_str_int (by rfl) t.n_str (by decide +kernel) (pa_cons (pv 2) pa_nil)) pe_str) (pe_callTy (T := "str") call_str_int (by rfl) t.n_str (by decide +kernel) (pa_cons (pv 3) pa_nil))) pa_nil)))))
      (pss_one (ps_ret (pe_join pe_str (pv 1)))))), ?_⟩
    have g0 : Gr mu0 F H F H := Gr.refl sF
    obtain ⟨p, x1, x2, x3, rfl, hp, e1, e2, l, cs, rfl, hl, hcs⟩ := hv
    have e1 : x1 = .int x.a := e1
    have e2 : x2 = .int x.b := e2
    subst e1
    subst e2
    have hT := SqT.of (K := K) (g0.fh _ _ hp)
    obtain ⟨c1, hc1, ec1⟩ := rowT_at hx.a0 hx.a1
    refine ⟨_, rfl, p, _, _, _, rfl, rfl, hT, atI_nat (j := 0) rfl, _, _, c1, rfl, rfl, by decide +kernel, hc1, ?_⟩
    rw [ec1]
    refine ⟨_, rfl, p, _, _, _, rfl, rfl, hT, atI_nat (j := 1) rfl, _, rfl, log31 hx.b, two_le, fun W nW => ?_⟩
    have g1 := g0.own (o := .lst [.str (rowT x.a), .str (toString x.b)]) nW
    have hW : (upd H W (.lst [.str (rowT x.a), .str (toString x.b)])) W = some (.lst [.str (rowT x.a), .str (toString x.b)]) := upd_same
    generalize upd H W (.lst [.str (rowT x.a), .str (toString x.b)]) = H1 at g1 hW ⊢
    refine ⟨_, rfl, p, _, _, _, rfl, rfl, SqT.of (g1.fh _ _ hp), atI_nat (j := 2) rfl, l, rfl, ⟨_, SqL.of (g1.fh _ _ hl)⟩, for_list (K := K) (a := l) (xs := cs) (fun i σ G => ∃ v2 v3 : Option V, σ = [some (.ref p), some (.ref W), v2, v3] ∧ Gr mu0 F H F G ∧ G W = some (.lst ((rowT x.a :: (toString x.b : Str) :: (x.c.take i).map eqT).map V.str))) ⟨none, none, rfl, g1, hW⟩ (fun i σ G _ p => SqL.of (p.choose_spec.choose_spec.2.1.fh _ _ hl)) ?_ ?_⟩
    · rintro i y σ G hi ⟨v2, v3, rfl, g, hWG⟩
      obtain ⟨c, hc, b, y1, y2, rfl, hb, d1, d2⟩ := hcs.get' hi
      have d1 : y1 = .int c.a := d1
      have d2 : y2 = .int c.b := d2
      subst d1
      subst d2
      have hcc := hx.c c (List.mem_of_getElem? hc)
      have l1 := tl_len31 hcc.1
      have l2 := tl_len31 hcc.2
      have le1 : ("=" : Str).length = 1 := by decide +kernel
      have lcs : cs.length = x.c.length := hcs.1
      have il := (List.getElem?_eq_some_iff.mp hi).1
      have n40 := hx.n
      refine ⟨b, _, rfl, SqT.of (g.fh _ _ hb), rfl, _, _, rfl, _, _, rfl, rfl, _, rfl, .inl ⟨rfl, _, SqL.of hWG⟩, ?_⟩
      refine ⟨_, rfl, _, rfl, log31 hcc.1, _, _, rfl, rfl, by rw [le1]; exact le_size (by omega), _, rfl, _, rfl, log31 hcc.2, _, _, rfl, rfl, by rw [str_len_app, le1]; exact le_size (by omega), ?_⟩
      refine ⟨W, _, _, rfl, rfl, hWG, by rw [List.length_map, List.length_cons, List.length_cons, List.length_map, List.length_take]; exact lt_size (by omega), ?_⟩
      refine ⟨_, _, rfl, g.set (sF.free (by first | assumption | exact nW)) (.inl nW), ?_⟩
      rw [upd_same, show V.str ((toString c.a : Str) ++ ("=" : Str) ++ (toString c.b : Str)) = V.str (eqT c) from rfl]
      show some (HO.lst (V.str _ :: V.str _ :: (((x.c.take i).map eqT).map V.str ++ [V.str (eqT c)]))) = some (HO.lst (V.str _ :: V.str _ :: ((x.c.take (i + 1)).map eqT).map V.str))
      rw [mt3 (f := eqT) hc]
    · rintro σ G ⟨v2, v3, rfl, g, hWG⟩
      rw [hcs.1, List.take_length] at hWG
      refine ⟨⟨_, rfl⟩, _, rfl, _, W, wordsT x, rfl, rfl, .inl (SqL.of hWG), words_sum hx, ?_⟩
      exact q _ g
/-! ### texts read -/
def sp_must : Sp := fun vs H Q _ => vs = [.bl true] ∧ Q .non H
theorem ok_must (t : Tx K mg) : FnOk P w K mg base CX0 1 t.a_must t.fd_must ["good"] sp_must := by
  refine t.F_must.ok sc_must (fun vs H Q E h => ?_) (fun cdv A outer s H vs Q E hr h => ?_)
  · obtain ⟨rfl, _⟩ := h
    rfl
  · obtain ⟨rfl, q⟩ := h
    refine ⟨_, (pss_one (ps_if (pt_not (pt_val (pv 0))) (pss_one ps_never) pss_nil)), ?_⟩
    exact ⟨_, rfl, _, rfl, ifF rfl q⟩
theorem figs_mem {c : Nat} (h : 48 ≤ c ∧ c ≤ 57) : c ∈ ("0123456789" : Str).cps.toList := by
  have e : ("0123456789" : Str).cps.toList = [48, 49, 50, 51, 52, 53, 54, 55, 56, 57] := by decide +kernel
  rw [e]
  have : c = 48 ∨ c = 49 ∨ c = 50 ∨ c = 51 ∨ c = 52 ∨ c = 53 ∨ c = 54 ∨ c = 55 ∨ c = 56 ∨ c = 57 := by omega
  rcases this with rfl | rfl | rfl | rfl | rfl | rfl | rfl | rfl | rfl | rfl <;> simp
theorem tl_mk (l : List Nat) : TL.tl (SX.S l) = l := rfl
theorem str_tl {x : Str} {l : List Nat} (h : TL.tl x = l) : x = SX.S l := by
  subst h; exact (TL.mk_tl x).symm
theorem cut_head {c : Nat} {l : List Nat} : cutS (SX.S (c :: l)) none (some 1) = SX.S [c] := by
  have e : HT.sIx (SX.S (c :: l)).length (SX.S (c :: l)).length (some 1) = 1 := by
    rw [SX.S_len, List.length_cons]
    show min 1 (l.length + 1) = 1
    omega
  unfold cutS
  rw [e]
  rfl
theorem cut_tail {c : Nat} {l : List Nat} : cutS (SX.S (c :: l)) (some 1) none = SX.S l := by
  have e : HT.sIx (SX.S (c :: l)).length 0 (some 1) = 1 := by
    rw [SX.S_len, List.length_cons]
    show min 1 (l.length + 1) = 1
    omega
  have e2 : HT.sIx (SX.S (c :: l)).length (SX.S (c :: l)).length none = l.length + 1 := by
    rw [SX.S_len, List.length_cons]; rfl
  unfold cutS
  rw [e, e2]
  show (⟨((l).take (l.length + 1 - 1)).toArray⟩ : Str) = _
  rw [Nat.add_sub_cancel, List.take_length]
/-- what stands behind the sign -/
def figs (i : Int) : Str := SX.S (TL.numL i.natAbs)
theorem fig_pos {i : Int} (h : 0 ≤ i) : (toString i : Str) = figs i := str_tl (tl_pos h)
theorem txt_neg {i : Int} (h : i < 0) : (toString i : Str) = SX.S (45 :: TL.numL i.natAbs) := str_tl (tl_neg h)
theorem minus_S : ("-" : Str) = SX.S [45] := by decide +kernel
theorem cut_neg {i : Int} (h : i < 0) : cutS (toString i : Str) (some 1) none = figs i := by
  rw [txt_neg h]; exact cut_tail
theorem place_neg {i : Int} (h : V.str (cutS (toString i : Str) none (some 1)) = V.str "-") : i < 0 := by
  by_cases p : i < 0
  · exact p
  · exfalso
    rw [fig_pos (by omega), minus_S] at h
    obtain ⟨c, r, e⟩ : ∃ c r, TL.numL i.natAbs = c :: r := by
      cases e : TL.numL i.natAbs with
      | nil => exact absurd e (TL.numL_ne _)
      | cons c r => exact ⟨c, r, rfl⟩
    unfold figs at h
    rw [e, cut_head] at h
    have h := SX.S_inj (V.str.inj h)
    have z := TL.numL_digits i.natAbs c (by rw [e]; exact List.mem_cons_self)
    have h : c = 45 := (List.cons.inj h).1
    omega
theorem place_pos {i : Int} (h : V.str (cutS (toString i : Str) none (some 1)) ≠ V.str "-") : 0 ≤ i := by
  by_cases p : 0 ≤ i
  · exact p
  · exfalso
    refine h ?_
    rw [txt_neg (by omega), cut_head, minus_S]
theorem gn13 {i : Nat} {v : V} {σ σ' : St} {H : Hp} {Q : St → Hp → Prop} (e : σ.set i (some v) = σ') (q : Q σ' H) : gName i v σ H Q := by
  subst e; exact q
def sp_read_place : Sp := fun vs H Q _ => ∃ (F : Hp) (i : Int), vs = [.str (toString i)] ∧ Same F H ∧ i.natAbs < 1000000000 ∧ ∀ H', Gr mu0 F H F H' → Q (.int i) H'
theorem ok_read_place (t : Tx K mg) : FnOk P w K mg base CX0 2 t.a_read_place t.fd_read_place ["text"] sp_read_place := by
  refine t.F_read_place.ok sc_read_place (fun vs H Q E h => ?_) (fun cdv A outer s H vs Q E hr h => ?_)
  · obtain ⟨F, i, rfl, _⟩ := h
    rfl
  · obtain ⟨F, i, rfl, sF, hi, q⟩ := h
    refine ⟨_, (pss_cons (ps_set (i := 1) sc_read_place.nd rfl (by first | exact Or.inl rfl | exact Or.inr rfl) (pv 0))
      (pss_cons (ps_if (pt_cmpR op_eq (pe_slice sl_str (pv 0) po_none (po_some pe_int)) pe_str (nomark _)) (pss_one (ps_set (i := 1) sc_read_place.nd rfl (by first | exact Or.inl rfl | exact Or.inr rfl) (pe_slice sl_str (pv 0) (po_some pe_int) po_none))) pss_nil)
      (pss_cons (ps_expr (pe_call (ok_must t) (hr.mono (by decide)) (by rfl) t.m_must t.F_must.kp t.b_must .nil pass0 (pa_cons (pe_and (pe_chain op_le op_le pe_int (pe_callB (id := "len") call_len_str (by rfl) t.n_len (by decide +kernel) (pa_cons (pv 1) pa_nil)) pe_int) (pe_one (pe_callB (id := "all") (cr_all rfl) (by rfl) t.n_all (by decide +kernel) (pa_cons (pe_lc (own := [("sign", 2)]) (g := gName 2) (tt := tYes) rfl sc_read_place.nd (pi_str (pv 1)) (blkOk_by (N := N_read_place) (sc := defScope s_read_place) (by decide +kernel)) (fun _ _ _ _ _ => (pg_name (i := 2) sc_read_place.nd rfl (by first | exact Or.inl rfl | exact Or.inr rfl))) (fun _ _ _ _ _ => pts_nil) (fun _ _ _ _ _ => (pe_cmpR op_in_sign (pv 2) (pe_glob (v := .str "0123456789") (by rfl) t.m_FIGURES ⟨_, rfl⟩) (by rfl)))) pa_nil)))) pa_nil)))
      (pss_cons (ps_expr (pe_call (ok_must t) (hr.mono (by decide)) (by rfl) t.m_must t.F_must.kp t.b_must .nil pass0 (pa_cons (pe_or (pe_cmpR op_ne (pe_ix ix_str (pv 1) pe_int (fun _ _ => rfl)) pe_str (nomark _)) (pe_one (pe_cmpR op_eq (pv 0) pe_str (nomark _)))) pa_nil)))
      (pss_one (ps_ret (pe_callTy (T := "int") call_int_str (by rfl) t.n_int (by decide +kernel) (pa_cons (pv 0) pa_nil)))))))), ?_⟩
    have g0 : Gr mu0 F H F H := Gr.refl sF
    have hlen := tl_len (k := 9) (i := i) (by decide) hi
    have hl9 := TL.numL_len (k := 9) (n := i.natAbs) (by decide) hi
    refine ⟨_, rfl, _, rfl, _, rfl, _, rfl, le_size (n := (toString i : Str).length) (by omega), rfl, _, rfl, ?_⟩
    refine ite2 (fun c => ?A) (fun c => ?B)
    case' A =>
      have hn := place_neg (of_decide_eq_true c)
      refine ⟨_, rfl, _, rfl, _, rfl, le_size (n := (toString i : Str).length) (by omega), ?_⟩
      rw [cut_neg hn]
      refine gn13 (σ' := [some (V.str (toString i)), some (.str (figs i)), none]) rfl ?_
    case' B =>
      have hn := place_pos fun z => c (decide_eq_true z)
      unfold tNext
      generalize hs : List.set _ _ _ = σ1
      have hs : σ1 = [some (V.str (toString i)), some (.str (figs i)), none] := by rw [← fig_pos hn]; exact hs.symm
      subst hs
    all_goals
      have lf : (figs i).length = (TL.numL i.natAbs).length := SX.S_len _
      have l0 : 0 < (TL.numL i.natAbs).length := List.length_pos_iff.mpr (TL.numL_ne _)
      refine ⟨_, rfl, _, rfl, le_size (n := (figs i).length) (by omega), _, _, rfl, rfl, _, rfl, ifT (decide_eq_true (by omega)) ⟨_, _, rfl, rfl, _, rfl, ifT (decide_eq_true (by omega)) ?_⟩⟩
      refine ⟨_, rfl, _, rfl, fun D nD => lc_it walk_str (fun j G => ∃ bs : List Bool, Gr mu0 F H F G ∧ G D = some (.lst (bs.map V.bl)) ∧ bs.length = j ∧ bs.all id = true) ⟨[], g0.own nD, upd_same, rfl, rfl⟩ (fun _ _ _ _ => trivial) ?_ ?_⟩
      · rintro j x G G' hj ⟨bs, g, hD, hl, ha⟩ ⟨rfl, c, hc, rfl⟩
        have hm : c ∈ (figs i).cps.toList := by
          have := Array.mem_of_getElem? hc
          exact Array.mem_toList_iff.mpr this
        have hd := TL.numL_digits i.natAbs c hm
        have hj : j < (figs i).length := hj
        refine ⟨rfl, yes ⟨_, rfl, _, _, rfl, rfl, _, hD, by rw [List.length_map]; exact lt_size (by omega), ?_⟩⟩
        rw [decide_eq_true (figs_mem hd)]
        exact ⟨bs ++ [true], g.set (sF.free nD) (.inl nD), by rw [upd_same, List.map_append]; rfl, by rw [List.length_append, hl]; rfl, by rw [List.all_append, ha]; rfl⟩
      · rintro G ⟨bs, g, hD, hl, ha⟩
        refine ⟨D, bs, rfl, SqL.of hD, ?_⟩
        rw [ha]
        refine ⟨rfl, ?_⟩
        have hq : ∀ G, Gr mu0 F H F G → Q (.int i) G := q
        have fin : PySem.intText? (toString i : Str) = some i ∧ (toString i : Str).length ≤ 640 := ⟨int_back hi, by omega⟩
        by_cases hz : i.natAbs = 0
        · have hz : i = 0 := by omega
          subst hz
          refine ⟨_, rfl, _, _, 48, rfl, rfl, by decide +kernel, by decide +kernel, rfl, _, rfl, ifF (by decide +kernel) ⟨_, rfl, rfl, ?_⟩⟩
          refine ⟨by decide +kernel, ?_⟩
          exact ⟨_, rfl, _, _, rfl, fin.1, fin.2, q _ g⟩
        · obtain ⟨c, r, e, hc⟩ := numL_head hz
          have ef : figs i = SX.S (c :: r) := by unfold figs; rw [e]
          refine ⟨_, rfl, _, _, c, rfl, rfl, le_size (n := (figs i).length) (by omega), by rw [ef]; exact atI_nat (j := 0) rfl, rfl, _, rfl, ifT (by
            rw [Bool.not_eq_true', decide_eq_false_iff_not]
            intro z
            have z : SX.S [c] = SX.S [48] := (V.str.inj z).trans (by decide +kernel)
            exact hc (List.cons.inj (SX.S_inj z)).1) ?_⟩
          refine ⟨rfl, ?_⟩
          exact ⟨_, rfl, _, _, rfl, fin.1, fin.2, q _ g⟩
theorem eq_tl : TL.tl ("=" : Str) = [61] := by decide +kernel
theorem blank_tl : TL.tl (" " : Str) = [32] := by decide +kernel
theorem part_eq (c : PI) : Txt.partition (eqT c) "=" = ((toString c.a : Str), ("=" : Str), (toString c.b : Str)) :=
  TL.partition_app eq_tl (no_sign ⟨by decide, by decide⟩ c.a)
def sp_read_sign : Sp := fun vs H Q _ => ∃ (F : Hp) (c : PI), vs = [.str (eqT c)] ∧ Same F H ∧ c.a.natAbs < 1000000000 ∧ 1 ≤ c.b ∧ c.b ≤ 3 ∧ ∀ (F' H' : Hp) (v : V), Gr mu0 F H F' H' → Is F' v c → Q v H'
theorem inV3 {b : Int} (h1 : 1 ≤ b) (h3 : b ≤ 3) : inV (.str (toString b : Str)) [.str "1", .str "2", .str "3"] = true := by
  have h : b = 1 ∨ b = 2 ∨ b = 3 := by omega
  rcases h with rfl | rfl | rfl <;> decide +kernel
theorem ok_read_sign (t : Tx K mg) : FnOk P w K mg base CX0 3 t.a_read_sign t.fd_read_sign ["text"] sp_read_sign := by
  refine t.F_read_sign.ok sc_read_sign (fun vs H Q E h => ?_) (fun cdv A outer s H vs Q E hr h => ?_)
  · obtain ⟨F, c, rfl, _⟩ := h
    rfl
  · obtain ⟨F, c, rfl, sF, ha, b1, b3, q⟩ := h
    refine ⟨_, (pss_cons (ps_asg (pe_partition (pv 0) pe_str) (pg_tup rfl (pgs_cons (pg_name (i := 1) sc_read_sign.nd rfl (by first | exact Or.inl rfl | exact Or.inr rfl)) (pgs_cons (pg_name (i := 2) sc_read_sign.nd rfl (by first | exact Or.inl rfl | exact Or.inr rfl)) (pgs_cons (pg_name (i := 3) sc_read_sign.nd rfl (by first | exact Or.inl rfl | exact Or.inr rfl)) pgs_nil)))))
      (pss_cons (ps_expr (pe_call (ok_must t) (hr.mono (by decide)) (by rfl) t.m_must t.F_must.kp t.b_must .nil pass0 (pa_cons (pe_cmpR op_in_seq (pv 3) (pe_lst (pa_cons pe_str (pa_cons pe_str (pa_cons pe_str pa_nil)))) (by rfl)) pa_nil)))
      (pss_one (ps_ret (pe_tup (pa_cons (pe_call (ok_read_place t) (hr.mono (by decide)) (by rfl) t.m_read_place t.F_read_place.kp t.b_read_place .nil pass0 (pa_cons (pv 1) pa_nil)) (pa_cons (pe_callTy (T := "int") call_int_str (by rfl) t.n_int (by decide +kernel) (pa_cons (pv 3) pa_nil)) pa_nil))))))), ?_⟩
    have g0 : Gr mu0 F H F H := Gr.refl sF
    have hl := eqT_len (c := c) ⟨by show c.a.natAbs < _; omega, by show c.b.natAbs < _; omega⟩
    refine ⟨_, rfl, ⟨_, rfl⟩, _, _, rfl, rfl, by decide +kernel, le_size (n := (eqT c).length) (by omega), fun p np => ?_⟩
    rw [part_eq]
    have g1 := g0.own (o := .tup [.str (toString c.a), .str "=", .str (toString c.b)]) np
    refine ⟨p, _, rfl, SqT.of upd_same, rfl, _, _, rfl, _, _, rfl, _, _, rfl, rfl, ?_⟩
    generalize upd H p (.tup [.str (toString c.a), .str "=", .str (toString c.b)]) = H1 at g1 ⊢
    refine ⟨_, rfl, three_le, fun D nD => ⟨D, _, rfl, .inl (SqL.of upd_same), rfl, by decide +kernel, ?_⟩⟩
    have g2 := g1.own (o := .lst [.str "1", .str "2", .str "3"]) nD
    generalize upd H1 D (.lst [.str "1", .str "2", .str "3"]) = H2 at g2 ⊢
    refine ⟨congrArg (fun b => [V.bl b]) (inV3 b1 b3), ?_⟩
    refine ⟨_, rfl, F, c.a, rfl, g2.fh, ha, fun H3 g3 => ?_⟩
    have g4 := g2.trans g3
    refine ⟨_, rfl, _, _, rfl, int_back (i := c.b) (by omega), by have := tl_len31 (i := c.b) (by omega); dsimp only; omega, two_le, fun u nu => ?_⟩
    exact q _ _ _ (g4.new nu) ⟨u, _, _, rfl, upd_same, rfl, rfl⟩
structure RdOk (x : Setup) : Prop where
  a0 : 0 ≤ x.a
  a1 : x.a < 4
  b : x.b.natAbs < 1000000000
  c : ∀ c ∈ x.c, c.a.natAbs < 1000000000 ∧ 1 ≤ c.b ∧ c.b ≤ 3
  n : x.c.length ≤ 40
  up : ∀ (k : Nat) (c d : PI), x.c[k]? = some c → x.c[k + 1]? = some d → c.a < d.a
theorem RdOk.set {x : Setup} (h : RdOk x) : SetOk x := ⟨h.a0, h.a1, by have := h.b; show x.b.natAbs < _; omega, fun c m => by
  have := h.c c m
  exact ⟨by show c.a.natAbs < _; omega, by show c.b.natAbs < _; omega⟩, h.n⟩
theorem rowT_tl (r : Int) : 32 ∉ TL.tl (rowT r) := by
  unfold rowT
  split
  · decide +kernel
  split
  · decide +kernel
  split
  · decide +kernel
  · decide +kernel
theorem eqT_tl (c : PI) : 32 ∉ TL.tl (eqT c) := by
  unfold eqT
  rw [TL.tl_append, TL.tl_append, eq_tl]
  intro m
  rcases List.mem_append.mp m with m | m
  · rcases List.mem_append.mp m with m | m
    · exact no_sign ⟨by decide, by decide⟩ _ m
    · exact absurd m (by decide)
  · exact no_sign ⟨by decide, by decide⟩ _ m
theorem split_set (x : Setup) : Txt.split (setT x) " " = wordsT x := by
  refine TL.split_join (s := 32) (S := []) blank_tl (by decide +kernel) (by unfold wordsT; simp) fun p m => ?_
  rcases List.mem_cons.mp m with rfl | m
  · exact rowT_tl _
  rcases List.mem_cons.mp m with rfl | m
  · exact no_sign ⟨by decide, by decide⟩ _
  · obtain ⟨c, _, rfl⟩ := List.mem_map.mp m
    exact eqT_tl c
theorem setT_len {x : Setup} (h : SetOk x) : (setT x).length ≤ 5000 := by
  have z := join_len_le " " (wordsT x) (words_len h)
  have n := h.n
  have e : (wordsT x).length = x.c.length + 2 := by show (List.map eqT x.c).length + 1 + 1 = _; rw [List.length_map]
  rw [e, blank_len] at z
  show (Txt.join " " (wordsT x)).length ≤ 5000
  omega
theorem inV4 {r : Int} : inV (.str (rowT r)) [.str "A", .str "B", .str "C", .str "D"] = true := by
  unfold rowT
  split
  · decide +kernel
  split
  · decide +kernel
  split
  · decide +kernel
  · decide +kernel
theorem occ4 {r : Int} (h0 : 0 ≤ r) (h1 : r < 4) : Builtin.Str.occurrences ("ABCD" : Str) (rowT r) 0 ("ABCD" : Str).length 1 = r.toNat :: [] := by
  have h : r = 0 ∨ r = 1 ∨ r = 2 ∨ r = 3 := by omega
  rcases h with rfl | rfl | rfl | rfl <;> decide +kernel
theorem cut_two {x y : V} {vs : List V} : cutV (x :: y :: vs) (some 2) none = vs := by
  have e : HT.sIx (x :: y :: vs).length 0 (some 2) = 2 := by
    show min 2 (vs.length + 1 + 1) = 2
    omega
  unfold cutV
  rw [e]
  show (vs).take (vs.length + 1 + 1 - 2) = vs
  rw [show vs.length + 1 + 1 - 2 = vs.length by omega, List.take_length]
def sp_read_setup : Sp := fun vs H Q _ => ∃ (F : Hp) (x : Setup), vs = [.str (setT x)] ∧ Same F H ∧ RdOk x ∧ ∀ (F' H' : Hp) (l v : Addr) (xs : List V), Gr mu0 F H F' H' → Ow H F' H' l (.lst xs) → IsAll F' xs x.c → Ow H F' H' v (.tup [.int x.a, .int x.b, .ref l]) → Q (.ref v) H'
theorem ok_read_setup (t : Tx K mg) : FnOk P w K mg base CX0 4 t.a_read_setup t.fd_read_setup ["text"] sp_read_setup := by
  refine t.F_read_setup.ok sc_read_setup (fun vs H Q E h => ?_) (fun cdv A outer s H vs Q E hr h => ?_)
  · obtain ⟨F, x, rfl, _⟩ := h
    rfl
  · obtain ⟨F, x, rfl, sF, hx, q⟩ := h
    refine ⟨_, (pss_cons (ps_set (i := 1) sc_read_setup.nd rfl (by first | exact Or.inl rfl | exact Or.inr rfl) (pe_split (pv 0) pe_str))
      (pss_cons (ps_expr (pe_call (ok_must t) (hr.mono (by decide)) (by rfl) t.m_must t.F_must.kp t.b_must .nil pass0 (pa_cons (pe_and (pe_chain op_le op_le pe_int (pe_callB (id := "len") call_lenQ (by rfl) t.n_len (by decide +kernel) (pa_cons (pv 1) pa_nil)) pe_int) (pe_one (pe_cmpR op_in_seq (pe_ix ix_list (pv 1) pe_int (fun _ _ => rfl)) (pe_lst (pa_cons pe_str (pa_cons pe_str (pa_cons pe_str (pa_cons pe_str pa_nil))))) (by rfl)))) pa_nil)))
      (pss_cons (ps_setLc (i := 2) (own := [("word", 3)]) (g := gName 3) (tt := tYes) rfl sc_read_setup.nd rfl rfl (sw_true rfl rfl rfl (by decide +kernel)) (pi_list (pe_slice sl_list (pv 1) (po_some pe_int) po_none)) (blkOk_by (N := N_read_setup) (sc := defScope s_read_setup) (by decide +kernel)) (fun _ _ _ _ _ => (pg_name (i := 3) sc_read_setup.nd rfl (by first | exact Or.inl rfl | exact Or.inr rfl))) (fun _ _ _ _ _ => pts_nil) (fun _ _ _ _ _ => (pe_call (ok_read_sign t) (hr.mono (by decide)) (by rfl) t.m_read_sign t.F_read_sign.kp t.b_read_sign .nil pass0 (pa_cons (pv 3) pa_nil))))
      (pss_cons (ps_for PassesOwn.never rfl (pi_range2 (by rfl) t.n_range (pa_cons pe_int (pa_cons (pe_callB (id := "len") call_lenQ (by rfl) t.n_len (by decide +kernel) (pa_cons (pv 2) pa_nil)) pa_nil))) (pg_name (i := 4) sc_read_setup.nd rfl (by first | exact Or.inl rfl | exact Or.inr rfl)) (pss_one (ps_expr (pe_call (ok_must t) (hr.mono (by decide)) (by rfl) t.m_must t.F_must.kp t.b_must .nil pass0 (pa_cons (pe_cmpR op_lt (pe_ix ix_tup (pe_ix ix_list (pv 2) (pe_op op_sub (pv 4) pe_int) (fun _ _ => rfl)) pe_int (fun _ _ => rfl)) (pe_ix ix_tup (pe_ix ix_list (pv 2) (pv 4) (fun _ _ => rfl)) pe_int (fun _ _ => rfl)) (nomark _)) pa_nil)))))
      (pss_one (ps_ret (pe_tup (pa_cons (pe_m1 PySem.F.slot_str_index PySem.F.type_str_index mt_sindex (pe_glob (v := .str "ABCD") (by rfl) t.m_ROWS ⟨_, rfl⟩) (pe_ix ix_list (pv 1) pe_int (fun _ _ => rfl))) (pa_cons (pe_call (ok_read_place t) (hr.mono (by decide)) (by rfl) t.m_read_place t.F_read_place.kp t.b_read_place .nil pass0 (pa_cons (pe_ix ix_list (pv 1) pe_int (fun _ _ => rfl)) pa_nil)) (pa_cons (pv 2) pa_nil)))))))))), ?_⟩
    have g0 : Gr mu0 F H F H := Gr.refl sF
    have hl := setT_len hx.set
    refine ⟨_, rfl, ⟨_, rfl⟩, _, _, rfl, rfl, by decide +kernel, le_size (n := (setT x).length + 2) (by omega), fun W nW => ?_⟩
    rw [split_set]
    have g1 := g0.own (o := .lst ((wordsT x).map V.str)) nW
    have hW : (upd H W (.lst ((wordsT x).map V.str))) W = some (.lst ((wordsT x).map V.str)) := upd_same
    generalize upd H W (.lst ((wordsT x).map V.str)) = H1 at g1 hW ⊢
    have lw : ((wordsT x).map V.str).length = x.c.length + 2 := by rw [List.length_map]; show (List.map eqT x.c).length + 1 + 1 = _; rw [List.length_map]
    have n40 := hx.n
    refine ⟨_, rfl, W, _, rfl, .inl (SqL.of hW), _, _, rfl, rfl, _, rfl, ifT (decide_eq_true (by rw [lw]; omega)) ⟨_, _, rfl, rfl, _, rfl, ifT (decide_eq_true (by rw [lw]; omega)) ?_⟩⟩
    refine ⟨_, rfl, W, _, _, _, rfl, rfl, SqL.of hW, atI_nat (j := 0) rfl, four_le, fun D nD => ⟨D, _, rfl, .inl (SqL.of upd_same), rfl, by decide +kernel, ?_⟩⟩
    refine ⟨congrArg (fun b => [V.bl b]) (inV4 (r := x.a)), ?_⟩
    have g2 := g1.own (o := .lst [.str "A", .str "B", .str "C", .str "D"]) nD
    have hW2 := ln (u := .lst [.str "A", .str "B", .str "C", .str "D"]) nD hW
    generalize upd H1 D (.lst [.str "A", .str "B", .str "C", .str "D"]) = H2 at g2 hW2 ⊢
    refine ⟨_, rfl, _, rfl, W, _, rfl, SqL.of hW2, fun S nS => ?_⟩
    rw [show cutV ((wordsT x).map V.str) (some 2) none = (x.c.map eqT).map V.str from cut_two]
    have g3 := g2.own (o := .lst ((x.c.map eqT).map V.str)) nS
    have hW3 := ln (u := .lst ((x.c.map eqT).map V.str)) nS hW2
    have hS : (upd H2 S (.lst ((x.c.map eqT).map V.str))) S = some (.lst ((x.c.map eqT).map V.str)) := upd_same
    generalize upd H2 S (.lst ((x.c.map eqT).map V.str)) = H3 at g3 hW3 hS ⊢
    have lS : ((x.c.map eqT).map V.str).length = x.c.length := by rw [List.length_map, List.length_map]
    refine ⟨S, rfl, ⟨_, SqL.of hS⟩, fun D nD => lc_list (K := K) (a := S) (xs := (x.c.map eqT).map V.str) (fun i G => ∃ (F2 : Hp) (xs : List V), Gr mu0 F H F2 G ∧ G S = some (.lst ((x.c.map eqT).map V.str)) ∧ G W = some (.lst ((wordsT x).map V.str)) ∧ S ≠ D ∧ W ≠ D ∧ Ow H F2 G D (.lst xs) ∧ IsAll F2 xs (x.c.take i)) ⟨F, [], g3.own nD, ln nD hS, ln nD hW3, ne_of_none hS nD, ne_of_none hW3 nD, Ow.mk1 g3 nD, All2.nil⟩ (fun i G _ p => SqL.of p.choose_spec.choose_spec.2.1) ?_ ?_⟩
    · rintro i y G hi ⟨F2, xs, g, hSG, hWG, SD, WD, w, al⟩
      have il := (List.getElem?_eq_some_iff.mp hi).1
      rw [lS] at il
      have hc : x.c[i]? = some x.c[i] := List.getElem?_eq_getElem il
      rw [List.getElem?_map, List.getElem?_map, hc] at hi
      obtain rfl : V.str (eqT x.c[i]) = y := Option.some.inj hi
      obtain ⟨c1, c2, c3⟩ := hx.c _ (List.mem_of_getElem? hc)
      refine ⟨rfl, yes ⟨_, rfl, F2, x.c[i], rfl, g.fh, c1, c2, c3, fun F3 H4 v g4 hv => ?_⟩⟩
      have w4 := w.call g4 (fun z => z)
      have l1 : xs.length = (x.c.take i).length := al.1
      rw [List.length_take] at l1
      refine ⟨_, w4.h, lt_size (by omega), F3, xs ++ [v], (g.trans g4).set w4.f (.inl w4.n), by rw [upd_ne SD]; exact g4.fr _ _ hSG (fun z => z), by rw [upd_ne WD]; exact g4.fr _ _ hWG (fun z => z), SD, WD, w4.set, ?_⟩
      rw [List.take_add_one, hc]
      exact (al.up g4.ff).app (All2.one hv)
    · rintro G ⟨F2, xs, g, hSG, hWG, SD, WD, w, al⟩
      rw [lS, List.take_length] at al
      have lx : xs.length = x.c.length := al.1
      refine ⟨_, rfl, D, xs, rfl, .inl (SqL.of w.h), 1, _, rfl, ⟨by decide, by decide, by omega, by omega⟩, for_range (lo := 1) (n := ((xs.length : Int) - 1).toNat) (fun i σ H2 => ∃ v : Option V, σ = [some (.str (setT x)), some (.ref W), some (.ref D), none, v] ∧ H2 = G) ⟨none, rfl, rfl⟩ ?_ ?_⟩
      · rintro j σ G hj ⟨v, rfl, rfl⟩
        have j1 : j < xs.length := by omega
        have j2 : j + 1 < xs.length := by omega
        obtain ⟨c, hc, p1, y1, y2, e1, h1, d1, d2⟩ := al.get' (List.getElem?_eq_getElem j1)
        obtain ⟨d, hd, p2, z1, z2, e2, h2, d3, d4⟩ := al.get' (List.getElem?_eq_getElem j2)
        have d1 : y1 = .int c.a := d1
        have d3 : z1 = .int d.a := d3
        subst d1
        subst d3
        have q1 : atI xs (1 + (j : Int) - 1) = some (.ref p1) := at_of (j := j) (by omega) (by rw [← e1]; exact List.getElem?_eq_getElem j1)
        have q2 : atI xs (1 + (j : Int)) = some (.ref p2) := at_of (j := j + 1) (by omega) (by rw [← e2]; exact List.getElem?_eq_getElem j2)
        refine ⟨_, rfl, _, rfl, _, _, rfl, rfl, D, _, _, _, rfl, rfl, SqL.of w.h, q1, p1, _, _, _, rfl, rfl, SqT.of (g.fh _ _ h1), atI_nat (j := 0) rfl, ?_⟩
        refine ⟨_, rfl, _, rfl, D, _, _, _, rfl, rfl, SqL.of w.h, q2, p2, _, _, _, rfl, rfl, SqT.of (g.fh _ _ h2), atI_nat (j := 0) rfl, _, _, rfl, rfl, ?_⟩
        refine ⟨congrArg (fun b => [V.bl b]) (decide_eq_true (hx.up j c d hc hd)), ?_⟩
        exact ⟨_, rfl, rfl⟩
      · rintro σ G ⟨v, rfl, rfl⟩
        refine ⟨⟨_, rfl⟩, _, rfl, W, _, _, _, rfl, rfl, SqL.of hWG, atI_nat (j := 0) rfl, _, _, _, _, rfl, rfl, occ4 hx.a0 hx.a1, ?_⟩
        rw [Int.toNat_of_nonneg hx.a0]
        refine ⟨_, rfl, W, _, _, _, rfl, rfl, SqL.of hWG, atI_nat (j := 1) rfl, F2, x.b, rfl, g.fh, hx.b, fun H5 g5 => ⟨_, rfl, three_le, fun u nu => ?_⟩⟩
        have w5 := w.call g5 (fun z => z)
        exact q F2 _ D u xs ((g.trans g5).own nu) (w5.own nu) al (Ow.mk1 (g.trans g5) nu)
/-! ### alike: numbers, and lists and tuples of these (a def that calls itself) -/
def Sm (F : Hp) : Nat → V → V → Prop
  | 0, v, u => ∃ i, v = .int i ∧ u = .int i
  | n + 1, v, u => (∃ i, v = .int i ∧ u = .int i) ∨ ∃ a b xs ys, v = .ref a ∧ u = .ref b ∧ ((F a = some (.lst xs) ∧ F b = some (.lst ys)) ∨ (F a = some (.tup xs) ∧ F b = some (.tup ys))) ∧ xs.length = ys.length ∧ xs.length ≤ 1000 ∧ ∀ (k : Nat) (x y : V), xs[k]? = some x → ys[k]? = some y → Sm F n x y
theorem Sm.up {F F' : Hp} (s : Same F F') : ∀ {n : Nat} {v u : V}, Sm F n v u → Sm F' n v u
  | 0, _, _, h => h
  | n + 1, _, _, .inl h => .inl h
  | n + 1, _, _, .inr ⟨a, b, xs, ys, e1, e2, h, l, l2, k⟩ => .inr ⟨a, b, xs, ys, e1, e2, h.imp (fun z => ⟨s _ _ z.1, s _ _ z.2⟩) (fun z => ⟨s _ _ z.1, s _ _ z.2⟩), l, l2, fun i x y p q => Sm.up s (k i x y p q)⟩
def sp_same (n : Nat) : Sp := fun vs H Q _ => ∃ (F : Hp) (v u : V), vs = [v, u] ∧ Same F H ∧ Sm F n v u ∧ ∀ H', Gr mu0 F H F H' → Q (.bl true) H'
theorem okR_same (t : Tx K mg) : ∀ n, FnOk P w K mg base CX0 (n + 1) t.a_L_same t.fd_L_same ["_law_found", "_law_due"] (sp_same n) := by
  intro n
  induction n with
  | zero =>
    refine t.F_L_same.ok sc_L_same (fun vs H Q E h => ?_) (fun cdv A outer s H vs Q E hr h => ?_)
    · obtain ⟨F, v, u, rfl, _⟩ := h
      rfl
    · obtain ⟨F, v, u, rfl, sF, hv, q⟩ := h
      refine ⟨_, (pss_cons (ps_if (PW.pt (pw_or (pt_val (pe_callB (id := "isinstance") call_isi (by rfl) t.n_isinstance (by decide +kernel) (pa_cons (pv 1) (pa_cons (pe_bltn (v := .ty "tuple") (by rfl) t.n_tuple (by decide +kernel) rfl) pa_nil)))) (pw_or1 (pt_val (pe_callB (id := "isinstance") call_isi (by rfl) t.n_isinstance (by decide +kernel) (pa_cons (pv 1) (pa_cons (pe_bltn (v := .ty "list") (by rfl) t.n_list (by decide +kernel) rfl) pa_nil))))))) (pss_cons (ps_if (PW.pt (pw_or (pt_cmpR op_ne (pe_callB (id := "isinstance") call_isi (by rfl) t.n_isinstance (by decide +kernel) (pa_cons (pv 0) (pa_cons (pe_bltn (v := .ty "tuple") (by rfl) t.n_tuple (by decide +kernel) rfl) pa_nil))) (pe_callB (id := "isinstance") call_isi (by rfl) t.n_isinstance (by decide +kernel) (pa_cons (pv 1) (pa_cons (pe_bltn (v := .ty "tuple") (by rfl) t.n_tuple (by decide +kernel) rfl) pa_nil))) (nomark _)) (pw_or1 (pt_cmpR op_ne (pe_callB (id := "isinstance") call_isi (by rfl) t.n_isinstance (by decide +kernel) (pa_cons (pv 0) (pa_cons (pe_bltn (v := .ty "list") (by rfl) t.n_list (by decide +kernel) rfl) pa_nil))) (pe_callB (id := "isinstance") call_isi (by rfl) t.n_isinstance (by decide +kernel) (pa_cons (pv 1) (pa_cons (pe_bltn (v := .ty "list") (by rfl) t.n_list (by decide +kernel) rfl) pa_nil))) (nomark _))))) (pss_one (ps_ret pe_bl)) pss_nil)
      (pss_cons (ps_if (pt_cmpR op_ne (pe_callB (id := "len") call_lenQ (by rfl) t.n_len (by decide +kernel) (pa_cons (pv 0) pa_nil)) (pe_callB (id := "len") call_lenQ (by rfl) t.n_len (by decide +kernel) (pa_cons (pv 1) pa_nil)) (nomark _)) (pss_one (ps_ret pe_bl)) pss_nil)
      (pss_one ps_never))) pss_nil)
      (pss_cons (ps_if (PW.pt (pw_or (pt_val (pe_callB (id := "isinstance") call_isi (by rfl) t.n_isinstance (by decide +kernel) (pa_cons (pv 1) (pa_cons (pe_bltn (v := .ty "str") (by rfl) t.n_str (by decide +kernel) rfl) pa_nil)))) (pw_or1 (pt_cmpR op_isN (pv 1) pe_non (nomark _))))) (pss_one (ps_ret (pe_and (pe_cmpR (op_eqD hr.units) (pv 0) (pv 1) (nomark _)) (pe_one (pe_cmpR op_eq (pe_callB (id := "isinstance") call_isi (by rfl) t.n_isinstance (by decide +kernel) (pa_cons (pv 0) (pa_cons (pe_bltn (v := .ty "str") (by rfl) t.n_str (by decide +kernel) rfl) pa_nil))) (pe_callB (id := "isinstance") call_isi (by rfl) t.n_isinstance (by decide +kernel) (pa_cons (pv 1) (pa_cons (pe_bltn (v := .ty "str") (by rfl) t.n_str (by decide +kernel) rfl) pa_nil))) (nomark _)))))) pss_nil)
      (pss_one (ps_ret (pe_and (pe_callB (id := "isinstance") call_isi (by rfl) t.n_isinstance (by decide +kernel) (pa_cons (pv 0) (pa_cons (pe_bltn (v := .ty "int") (by rfl) t.n_int (by decide +kernel) rfl) pa_nil))) (pe_and (pe_not (pe_callB (id := "isinstance") call_isi (by rfl) t.n_isinstance (by decide +kernel) (pa_cons (pv 0) (pa_cons (pe_bltn (v := .ty "bool") (by rfl) t.n_bool (by decide +kernel) rfl) pa_nil)))) (pe_one (pe_cmpR (op_eqD hr.units) (pv 0) (pv 1) (nomark _))))))))), ?_⟩
      have g0 : Gr mu0 F H F H := Gr.refl sF
      obtain ⟨i, rfl, rfl⟩ := hv
      refine ⟨_, rfl, _, _, _, _, false, rfl, .ty "tuple", .base (.int _), kit_ty (by decide +kernel), _, rfl, ifF rfl ⟨_, rfl, _, _, _, _, false, rfl, .ty "list", .base (.int _), kit_ty (by decide +kernel), _, rfl, ifF rfl ?_⟩⟩
      refine ⟨_, rfl, _, _, _, _, false, rfl, .ty "str", .base (.int _), kit_ty (by decide +kernel), _, rfl, ifF rfl ⟨_, rfl, rfl, _, rfl, ifF rfl ?_⟩⟩
      refine ⟨_, rfl, _, _, _, _, true, rfl, .ty "int", .base (.int _), kt_int_int, _, rfl, ifT rfl ⟨_, rfl, _, _, _, _, false, rfl, .ty "bool", .base (.int _), kt_int_bool, _, rfl, _, rfl, ifT rfl ⟨_, rfl, _, rfl, ?_⟩⟩⟩
      refine eq_dat (a := i) (b := i) rfl rfl ?_
      rw [decide_eq_true rfl]
      exact q _ g0
  | succ n ih =>
    refine t.F_L_same.ok sc_L_same (fun vs H Q E h => ?_) (fun cdv A outer s H vs Q E hr h => ?_)
    · obtain ⟨F, v, u, rfl, _⟩ := h
      rfl
    · obtain ⟨F, v, u, rfl, sF, hv, q⟩ := h
      refine ⟨_, (pss_cons (ps_if (PW.pt (pw_or (pt_val (pe_callB (id := "isinstance") call_isi (by rfl) t.n_isinstance (by decide +kernel) (pa_cons (pv 1) (pa_cons (pe_bltn (v := .ty "tuple") (by rfl) t.n_tuple (by decide +kernel) rfl) pa_nil)))) (pw_or1 (pt_val (pe_callB (id := "isinstance") call_isi (by rfl) t.n_isinstance (by decide +kernel) (pa_cons (pv 1) (pa_cons (pe_bltn (v := .ty "list") (by rfl) t.n_list (by decide +kernel) rfl) pa_nil))))))) (pss_cons (ps_if (PW.pt (pw_or (pt_cmpR op_ne (pe_callB (id := "isinstance") call_isi (by rfl) t.n_isinstance (by decide +kernel) (pa_cons (pv 0) (pa_cons (pe_bltn (v := .ty "tuple") (by rfl) t.n_tuple (by decide +kernel) rfl) pa_nil))) (pe_callB (id := "isinstance") call_isi (by rfl) t.n_isinstance (by decide +kernel) (pa_cons (pv 1) (pa_cons (pe_bltn (v := .ty "tuple") (by rfl) t.n_tuple (by decide +kernel) rfl) pa_nil))) (nomark _)) (pw_or1 (pt_cmpR op_ne (pe_callB (id := "isinstance") call_isi (by rfl) t.n_isinstance (by decide +kernel) (pa_cons (pv 0) (pa_cons (pe_bltn (v := .ty "list") (by rfl) t.n_list (by decide +kernel) rfl) pa_nil))) (pe_callB (id := "isinstance") call_isi (by rfl) t.n_isinstance (by decide +kernel) (pa_cons (pv 1) (pa_cons (pe_bltn (v := .ty "list") (by rfl) t.n_list (by decide +kernel) rfl) pa_nil))) (nomark _))))) (pss_one (ps_ret pe_bl)) pss_nil)
      (pss_cons (ps_if (pt_cmpR op_ne (pe_callB (id := "len") call_lenQ (by rfl) t.n_len (by decide +kernel) (pa_cons (pv 0) pa_nil)) (pe_callB (id := "len") call_lenQ (by rfl) t.n_len (by decide +kernel) (pa_cons (pv 1) pa_nil)) (nomark _)) (pss_one (ps_ret pe_bl)) pss_nil)
      (pss_one (ps_ret (pe_cmpR op_eq (pe_callB (id := "len") call_lenQ (by rfl) t.n_len (by decide +kernel) (pa_cons (pe_lc (own := [("_law_k", 2)]) (g := gName 2) rfl sc_L_same.nd (pi_range1 (by rfl) t.n_range (pa_cons (pe_callB (id := "len") call_lenQ (by rfl) t.n_len (by decide +kernel) (pa_cons (pv 1) pa_nil)) pa_nil)) (blkOk_by (N := N_L_same) (sc := defScope s_L_same) (by decide +kernel)) (fun _ _ _ _ _ => (pg_name (i := 2) sc_L_same.nd rfl (by first | exact Or.inl rfl | exact Or.inr rfl))) (fun _ _ _ _ _ => (pts_one (pt_not (pt_val (pe_call ih (hr.mono (Nat.le_refl _)) (by rfl) t.m_L_same t.F_L_same.kp t.b_L_same .nil pass0 (pa_cons (pe_ix (ixK (K := K) (r := rIx) rfl ix_seq) (pv 0) (pv 2) (fun _ _ => rfl)) (pa_cons (pe_ix (ixK (K := K) (r := rIx) rfl ix_seq) (pv 1) (pv 2) (fun _ _ => rfl)) pa_nil))))))) (fun _ _ _ _ _ => (pv 2))) pa_nil)) pe_int (nomark _)))))) pss_nil)
      (pss_cons (ps_if (PW.pt (pw_or (pt_val (pe_callB (id := "isinstance") call_isi (by rfl) t.n_isinstance (by decide +kernel) (pa_cons (pv 1) (pa_cons (pe_bltn (v := .ty "str") (by rfl) t.n_str (by decide +kernel) rfl) pa_nil)))) (pw_or1 (pt_cmpR op_isN (pv 1) pe_non (nomark _))))) (pss_one (ps_ret (pe_and (pe_cmpR (op_eqD hr.units) (pv 0) (pv 1) (nomark _)) (pe_one (pe_cmpR op_eq (pe_callB (id := "isinstance") call_isi (by rfl) t.n_isinstance (by decide +kernel) (pa_cons (pv 0) (pa_cons (pe_bltn (v := .ty "str") (by rfl) t.n_str (by decide +kernel) rfl) pa_nil))) (pe_callB (id := "isinstance") call_isi (by rfl) t.n_isinstance (by decide +kernel) (pa_cons (pv 1) (pa_cons (pe_bltn (v := .ty "str") (by rfl) t.n_str (by decide +kernel) rfl) pa_nil))) (nomark _)))))) pss_nil)
      (pss_one (ps_ret (pe_and (pe_callB (id := "isinstance") call_isi (by rfl) t.n_isinstance (by decide +kernel) (pa_cons (pv 0) (pa_cons (pe_bltn (v := .ty "int") (by rfl) t.n_int (by decide +kernel) rfl) pa_nil))) (pe_and (pe_not (pe_callB (id := "isinstance") call_isi (by rfl) t.n_isinstance (by decide +kernel) (pa_cons (pv 0) (pa_cons (pe_bltn (v := .ty "bool") (by rfl) t.n_bool (by decide +kernel) rfl) pa_nil)))) (pe_one (pe_cmpR (op_eqD hr.units) (pv 0) (pv 1) (nomark _))))))))), ?_⟩
      have g0 : Gr mu0 F H F H := Gr.refl sF
      rcases hv with ⟨i, rfl, rfl⟩ | ⟨a, b, xs, ys, rfl, rfl, hab, hl, hl2, hk⟩
      · refine ⟨_, rfl, _, _, _, _, false, rfl, .ty "tuple", .base (.int _), kit_ty (by decide +kernel), _, rfl, ifF rfl ⟨_, rfl, _, _, _, _, false, rfl, .ty "list", .base (.int _), kit_ty (by decide +kernel), _, rfl, ifF rfl ?_⟩⟩
        refine ⟨_, rfl, _, _, _, _, false, rfl, .ty "str", .base (.int _), kit_ty (by decide +kernel), _, rfl, ifF rfl ⟨_, rfl, rfl, _, rfl, ifF rfl ?_⟩⟩
        refine ⟨_, rfl, _, _, _, _, true, rfl, .ty "int", .base (.int _), kt_int_int, _, rfl, ifT rfl ⟨_, rfl, _, _, _, _, false, rfl, .ty "bool", .base (.int _), kt_int_bool, _, rfl, _, rfl, ifT rfl ⟨_, rfl, _, rfl, ?_⟩⟩⟩
        refine eq_dat (a := i) (b := i) rfl rfl ?_
        rw [decide_eq_true rfl]
        exact q _ g0
      · rcases hab with ⟨ha, hb⟩ | ⟨ha, hb⟩
        · have h1 := sF _ _ ha
          have h2 := sF _ _ hb
          refine ⟨_, rfl, _, _, _, _, false, rfl, .ty "tuple", .base (.lst h2), kit_ty (by decide +kernel), _, rfl, ifF rfl ⟨_, rfl, _, _, _, _, true, rfl, .ty "list", .base (.lst h2), kt_list, _, rfl, ifT rfl ?_⟩⟩
          refine ⟨_, rfl, _, _, _, _, false, rfl, .ty "tuple", .base (.lst h1), kit_ty (by decide +kernel), _, rfl, _, _, _, _, false, rfl, .ty "tuple", .base (.lst h2), kit_ty (by decide +kernel), rfl, _, rfl, ifF rfl ?_⟩
          refine ⟨_, rfl, _, _, _, _, true, rfl, .ty "list", .base (.lst h1), kt_list, _, rfl, _, _, _, _, true, rfl, .ty "list", .base (.lst h2), kt_list, rfl, _, rfl, ifF rfl ?_⟩
          refine ⟨_, rfl, a, _, rfl, .inl (SqL.of h1), _, rfl, b, _, rfl, .inl (SqL.of h2), rfl, _, rfl, ifF (by rw [hl, decide_eq_true rfl]; rfl) ?_⟩
          refine ⟨_, rfl, b, _, rfl, .inl (SqL.of h2), _, rfl, by omega, by omega, fun D nD => lc_range (lo := 0) (n := ((ys.length : Int)).toNat) (fun j G => Gr mu0 F H F G ∧ G D = some (.lst [])) ⟨g0.own nD, upd_same⟩ ?_ ?_⟩
          · rintro j G hj ⟨g, hD⟩
            have j2 : j < ys.length := by omega
            have j1 : j < xs.length := by omega
            refine ⟨rfl, _, rfl, _, rfl, .inl ⟨a, _, _, _, rfl, rfl, SqL.of (g.fh _ _ ha), at_of (j := j) (by omega) (List.getElem?_eq_getElem j1), _, rfl, _, rfl, .inl ⟨b, _, _, _, rfl, rfl, SqL.of (g.fh _ _ hb), at_of (j := j) (by omega) (List.getElem?_eq_getElem j2), ?_⟩⟩⟩
            exact ⟨F, xs[j], ys[j], rfl, g.fh, hk j _ _ (List.getElem?_eq_getElem j1) (List.getElem?_eq_getElem j2), fun G' g' => ⟨_, rfl, ifF rfl ⟨g.trans g', g'.fr _ _ hD (fun z => z)⟩⟩⟩
          · rintro G ⟨g, hD⟩
            exact ⟨D, _, rfl, .inl (SqL.of hD), rfl, q _ g⟩
        · have h1 := sF _ _ ha
          have h2 := sF _ _ hb
          refine ⟨_, rfl, _, _, _, _, true, rfl, .ty "tuple", .base (.tup h2), kt_tup, _, rfl, ifT rfl ?_⟩
          refine ⟨_, rfl, _, _, _, _, true, rfl, .ty "tuple", .base (.tup h1), kt_tup, _, rfl, _, _, _, _, true, rfl, .ty "tuple", .base (.tup h2), kt_tup, rfl, _, rfl, ifF rfl ?_⟩
          refine ⟨_, rfl, _, _, _, _, false, rfl, .ty "list", .base (.tup h1), kit_ty (by decide +kernel), _, rfl, _, _, _, _, false, rfl, .ty "list", .base (.tup h2), kit_ty (by decide +kernel), rfl, _, rfl, ifF rfl ?_⟩
          refine ⟨_, rfl, a, _, rfl, .inr (SqT.of h1), _, rfl, b, _, rfl, .inr (SqT.of h2), rfl, _, rfl, ifF (by rw [hl, decide_eq_true rfl]; rfl) ?_⟩
          refine ⟨_, rfl, b, _, rfl, .inr (SqT.of h2), _, rfl, by omega, by omega, fun D nD => lc_range (lo := 0) (n := ((ys.length : Int)).toNat) (fun j G => Gr mu0 F H F G ∧ G D = some (.lst [])) ⟨g0.own nD, upd_same⟩ ?_ ?_⟩
          · rintro j G hj ⟨g, hD⟩
            have j2 : j < ys.length := by omega
            have j1 : j < xs.length := by omega
            refine ⟨rfl, _, rfl, _, rfl, .inr (.inl ⟨a, _, _, _, rfl, rfl, SqT.of (g.fh _ _ ha), at_of (j := j) (by omega) (List.getElem?_eq_getElem j1), _, rfl, _, rfl, .inr (.inl ⟨b, _, _, _, rfl, rfl, SqT.of (g.fh _ _ hb), at_of (j := j) (by omega) (List.getElem?_eq_getElem j2), ?_⟩)⟩)⟩
            exact ⟨F, xs[j], ys[j], rfl, g.fh, hk j _ _ (List.getElem?_eq_getElem j1) (List.getElem?_eq_getElem j2), fun G' g' => ⟨_, rfl, ifF rfl ⟨g.trans g', g'.fr _ _ hD (fun z => z)⟩⟩⟩
          · rintro G ⟨g, hD⟩
            exact ⟨D, _, rfl, .inl (SqL.of hD), rfl, q _ g⟩
def sp_L_same : Sp := sp_same 5
theorem ok_L_same (t : Tx K mg) : FnOk P w K mg base CX0 6 t.a_L_same t.fd_L_same ["_law_found", "_law_due"] sp_L_same := okR_same t 5
/-! ### setups drawn -/
def sp_L_place : Sp := fun vs H Q _ => ∃ (F : Hp) (p : Addr) (a b : Int), vs = [.ref p] ∧ Same F H ∧ F p = none ∧ H p = some (PurseO a b) ∧ 0 ≤ a ∧ 0 ≤ b ∧
  ∀ (H' : Hp) (i : Int) (a' b' : Int), Gr (muP p) F H F H' → H' p = some (PurseO a' b') → 0 ≤ a' → 0 ≤ b' → i.natAbs < 1000000000 → Q (.int i) H'
theorem ok_L_place (t : Tx K mg) : FnOk P w K mg base CX0 2 t.a_L_place t.fd_L_place ["_law_purse_here"] sp_L_place := by
  refine t.F_L_place.ok sc_L_place (fun vs H Q E h => ?_) (fun cdv A outer s H vs Q E hr h => ?_)
  · obtain ⟨F, p, a, b, rfl, _⟩ := h
    rfl
  · obtain ⟨F, p, a, b, rfl, sF, fp, hp, ha, hb, q⟩ := h
    refine ⟨_, (pss_cons (ps_set (i := 1) sc_L_place.nd rfl (by first | exact Or.inl rfl | exact Or.inr rfl) (pe_ix ix_list (pe_lst (pa_cons pe_int (pa_cons pe_int (pa_cons pe_int (pa_cons pe_int (pa_cons (pe_op op_sub (pe_op op_pow pe_int pe_int) pe_int) pa_nil)))))) (pe_call (ok_L_draw t) (hr.mono (by decide)) (by rfl) t.m_L_draw t.F_L_draw.kp t.b_L_draw .nil pass0 (pa_cons (pv 0) (pa_cons pe_int pa_nil))) (fun _ _ => rfl)))
      (pss_one (ps_ret (pe_op op_sub (pe_call (ok_L_draw t) (hr.mono (by decide)) (by rfl) t.m_L_draw t.F_L_draw.kp t.b_L_draw .nil pass0 (pa_cons (pv 0) (pa_cons (pe_op op_add (pe_op op_mul pe_int (pv 1)) pe_int) pa_nil))) (pv 1))))), ?_⟩
    have g0 : Gr (muP p) F H F H := Gr.refl sF
    have e9 : (10 : Int) ^ (9 : Int).toNat - 1 = 999999999 := by decide
    refine ⟨_, _, rfl, rfl, ⟨by decide, by decide, by decide⟩, _, _, rfl, rfl, five_le, fun l nl => ?_⟩
    dsimp only
    rw [e9]
    have g1 := g0.own (o := .lst [.int 3, .int 1, .int 40, .int 1000, .int 999999999]) nl
    have hp1 := ln (u := .lst [.int 3, .int 1, .int 40, .int 1000, .int 999999999]) nl hp
    have hl1 : (upd H l (.lst [.int 3, .int 1, .int 40, .int 1000, .int 999999999])) l = some (.lst [.int 3, .int 1, .int 40, .int 1000, .int 999999999]) := upd_same
    have pl : l ≠ p := (ne_of_none hp nl).symm
    generalize upd H l (.lst [.int 3, .int 1, .int 40, .int 1000, .int 999999999]) = H1 at g1 hp1 hl1
    refine ⟨_, rfl, p, a, b, 5, rfl, hp1, ha, hb, by decide, by decide, fun d a1 b1 d0 d1 ha1 hb1 => ?_⟩
    have g2 := g1.set (o := PurseO a1 b1) fp (.inr rfl)
    have hp2 : (upd H1 p (PurseO a1 b1)) p = some (PurseO a1 b1) := upd_same
    have hl2 := (upd_ne (o := PurseO a1 b1) pl).trans hl1
    generalize upd H1 p (PurseO a1 b1) = H2 at g2 hp2 hl2
    obtain ⟨z, hz, hz0, hz1⟩ : ∃ z : Int, atI [V.int 3, V.int 1, V.int 40, V.int 1000, V.int 999999999] d = some (.int z) ∧ 1 ≤ z ∧ z ≤ 999999999 := by
      have h : d = 0 ∨ d = 1 ∨ d = 2 ∨ d = 3 ∨ d = 4 := by omega
      rcases h with rfl | rfl | rfl | rfl | rfl
      · exact ⟨3, rfl, by decide, by decide⟩
      · exact ⟨1, rfl, by decide, by decide⟩
      · exact ⟨40, rfl, by decide, by decide⟩
      · exact ⟨1000, rfl, by decide, by decide⟩
      · exact ⟨999999999, rfl, by decide, by decide⟩
    refine ⟨l, _, _, _, rfl, rfl, SqL.of hl2, hz, ?_⟩
    refine ⟨_, rfl, _, rfl, _, _, rfl, rfl, .inl ⟨by omega, by omega⟩, _, _, rfl, rfl, p, a1, b1, 2 * z + 1, rfl, hp2, ha1, hb1, by omega, by omega, fun e a2 b2 e0 e1 ha2 hb2 => ?_⟩
    have g3 := g2.set (o := PurseO a2 b2) fp (.inr rfl)
    exact ⟨_, rfl, _, _, rfl, rfl, q _ _ a2 b2 g3 upd_same ha2 hb2 (by omega)⟩
def sp_L_setup : Sp := fun vs H Q _ => ∃ (F : Hp) (p : Addr) (a b : Int), vs = [.ref p] ∧ Same F H ∧ F p = none ∧ H p = some (PurseO a b) ∧ 0 ≤ a ∧ 0 ≤ b ∧
  ∀ (F' H' : Hp) (v : V) (x : Setup) (a' b' : Int), Gr (muP p) F H F' H' → H' p = some (PurseO a' b') → 0 ≤ a' → 0 ≤ b' → Is F' v x → RdOk x → Q v H'
theorem ok_L_setup (t : Tx K mg) : FnOk P w K mg base CX0 3 t.a_L_setup t.fd_L_setup ["_law_purse_here"] sp_L_setup := by
  refine t.F_L_setup.ok sc_L_setup (fun vs H Q E h => ?_) (fun cdv A outer s H vs Q E hr h => ?_)
  · obtain ⟨F, p, a, b, rfl, _⟩ := h
    rfl
  · obtain ⟨F, p, a, b, rfl, sF, fp, hp, ha, hb, q⟩ := h
    refine ⟨_, (pss_cons (ps_set (i := 1) sc_L_setup.nd rfl (by first | exact Or.inl rfl | exact Or.inr rfl) (pe_ix ix_list (pe_lst (pa_cons pe_int (pa_cons pe_int (pa_cons (pe_call (ok_L_draw t) (hr.mono (by decide)) (by rfl) t.m_L_draw t.F_L_draw.kp t.b_L_draw .nil pass0 (pa_cons (pv 0) (pa_cons pe_int pa_nil))) (pa_cons (pe_call (ok_L_draw t) (hr.mono (by decide)) (by rfl) t.m_L_draw t.F_L_draw.kp t.b_L_draw .nil pass0 (pa_cons (pv 0) (pa_cons pe_int pa_nil))) (pa_cons pe_int (pa_cons pe_int pa_nil))))))) (pe_call (ok_L_draw t) (hr.mono (by decide)) (by rfl) t.m_L_draw t.F_L_draw.kp t.b_L_draw .nil pass0 (pa_cons (pv 0) (pa_cons pe_int pa_nil))) (fun _ _ => rfl)))
      (pss_cons (ps_set (i := 2) sc_L_setup.nd rfl (by first | exact Or.inl rfl | exact Or.inr rfl) (pe_ix ix_list (pe_lst (pa_cons (pe_call (ok_L_place t) (hr.mono (by decide)) (by rfl) t.m_L_place t.F_L_place.kp t.b_L_place .nil pass0 (pa_cons (pv 0) pa_nil)) (pa_cons (pe_op op_sub (pe_op op_sub (pe_op op_pow pe_int pe_int) pe_int) (pv 1)) (pa_cons (pe_op op_sub pe_int (pe_op op_pow pe_int pe_int)) pa_nil)))) (pe_call (ok_L_draw t) (hr.mono (by decide)) (by rfl) t.m_L_draw t.F_L_draw.kp t.b_L_draw .nil pass0 (pa_cons (pv 0) (pa_cons pe_int pa_nil))) (fun _ _ => rfl)))
      (pss_cons (ps_set (i := 3) sc_L_setup.nd rfl (by first | exact Or.inl rfl | exact Or.inr rfl) (pe_ix ix_list (pe_lst (pa_cons pe_int (pa_cons pe_int (pa_cons pe_int (pa_cons pe_int pa_nil))))) (pe_call (ok_L_draw t) (hr.mono (by decide)) (by rfl) t.m_L_draw t.F_L_draw.kp t.b_L_draw .nil pass0 (pa_cons (pv 0) (pa_cons pe_int pa_nil))) (fun _ _ => rfl)))
      (pss_cons (ps_set (i := 4) sc_L_setup.nd rfl (by first | exact Or.inl rfl | exact Or.inr rfl) (pe_lst pa_nil))
      (pss_cons (ps_for PassesOwn.never rfl (pi_range1 (by rfl) t.n_range (pa_cons (pv 1) pa_nil)) (pg_name (i := 5) sc_L_setup.nd rfl (by first | exact Or.inl rfl | exact Or.inr rfl)) (pss_cons (ps_if (pt_cmpR op_lt (pv 2) (pe_op op_pow pe_int pe_int) (nomark _)) (pss_one (ps_expr (pe_bm PySem.F.plainAttrs_list PySem.F.slot_list_append PySem.F.type_list_append mt_append (pv 4) (pa_cons (pe_tup (pa_cons (pv 2) (pa_cons (pe_op op_add pe_int (pe_call (ok_L_draw t) (hr.mono (by decide)) (by rfl) t.m_L_draw t.F_L_draw.kp t.b_L_draw .nil pass0 (pa_cons (pv 0) (pa_cons pe_int pa_nil)))) pa_nil))) pa_nil)))) pss_nil)
      (pss_one (ps_set (i := 2) sc_L_setup.nd rfl (by first | exact Or.inl rfl | exact Or.inr rfl) (pe_op op_add (pe_op op_add (pv 2) pe_int) (pe_call (ok_L_draw t) (hr.mono (by decide)) (by rfl) t.m_L_draw t.F_L_draw.kp t.b_L_draw .nil pass0 (pa_cons (pv 0) (pa_cons (pv 3) pa_nil))))))))
      (pss_one (ps_ret (pe_tup (pa_cons (pe_call (ok_L_draw t) (hr.mono (by decide)) (by rfl) t.m_L_draw t.F_L_draw.kp t.b_L_draw .nil pass0 (pa_cons (pv 0) (pa_cons pe_int pa_nil))) (pa_cons (pe_call (ok_L_place t) (hr.mono (by decide)) (by rfl) t.m_L_place t.F_L_place.kp t.b_L_place .nil pass0 (pa_cons (pv 0) pa_nil)) (pa_cons (pv 4) pa_nil))))))))))), ?_⟩
    have g0 : Gr (muP p) F H F H := Gr.refl sF
    refine ⟨_, rfl, p, a, b, 6, rfl, hp, ha, hb, by decide, by decide, fun d1 a1 b1 d10 d11 ha1 hb1 => ?_⟩
    have g1 := g0.set (o := PurseO a1 b1) fp (.inr rfl)
    have hp1 : (upd H p (PurseO a1 b1)) p = some (PurseO a1 b1) := upd_same
    generalize upd H p (PurseO a1 b1) = H1 at g1 hp1 ⊢
    refine ⟨_, rfl, p, a1, b1, 13, rfl, hp1, ha1, hb1, by decide, by decide, fun d2 a2 b2 d20 d21 ha2 hb2 => ⟨by show 6 ≤ sizeLine; decide, fun l nl => ?_⟩⟩
    have g2 := g1.set (o := PurseO a2 b2) fp (.inr rfl)
    have hp2 : (upd H1 p (PurseO a2 b2)) p = some (PurseO a2 b2) := upd_same
    generalize upd H1 p (PurseO a2 b2) = H2 at g2 hp2 nl ⊢
    have g3 := g2.own (o := .lst [.int 0, .int 1, .int d1, .int d2, .int 39, .int 40]) nl
    have hp3 := ln (u := .lst [.int 0, .int 1, .int d1, .int d2, .int 39, .int 40]) nl hp2
    have hl3 : (upd H2 l (.lst [.int 0, .int 1, .int d1, .int d2, .int 39, .int 40])) l = some (.lst [.int 0, .int 1, .int d1, .int d2, .int 39, .int 40]) := upd_same
    have pl : l ≠ p := (ne_of_none hp2 nl).symm
    generalize upd H2 l (.lst [.int 0, .int 1, .int d1, .int d2, .int 39, .int 40]) = H3 at g3 hp3 hl3 ⊢
    refine ⟨_, rfl, p, a2, b2, 6, rfl, hp3, ha2, hb2, by decide, by decide, fun d a3 b3 d0 d1' ha3 hb3 => ?_⟩
    have g4 := g3.set (o := PurseO a3 b3) fp (.inr rfl)
    have hp4 : (upd H3 p (PurseO a3 b3)) p = some (PurseO a3 b3) := upd_same
    have hl4 := (upd_ne (o := PurseO a3 b3) pl).trans hl3
    generalize upd H3 p (PurseO a3 b3) = H4 at g4 hp4 hl4 ⊢
    obtain ⟨n, hn, hn1⟩ : ∃ n : Nat, atI [V.int 0, V.int 1, V.int d1, V.int d2, V.int 39, V.int 40] d = some (.int n) ∧ n ≤ 40 := by
      have h : d = 0 ∨ d = 1 ∨ d = 2 ∨ d = 3 ∨ d = 4 ∨ d = 5 := by omega
      rcases h with rfl | rfl | rfl | rfl | rfl | rfl
      · exact ⟨0, rfl, by decide⟩
      · exact ⟨1, rfl, by decide⟩
      · exact ⟨d1.toNat, by rw [Int.toNat_of_nonneg d10]; rfl, by omega⟩
      · exact ⟨d2.toNat, by rw [Int.toNat_of_nonneg d20]; rfl, by omega⟩
      · exact ⟨39, rfl, by decide⟩
      · exact ⟨40, rfl, by decide⟩
    refine ⟨l, _, _, _, rfl, rfl, SqL.of hl4, hn, ?_⟩
    -- the first place
    refine ⟨_, rfl, F, p, a3, b3, rfl, g4.fh, fp, hp4, ha3, hb3, fun H5 i a5 b5 g5 hp5 ha5 hb5 hi => ?_⟩
    have g6 := g4.trans g5
    have e9 : (10 : Int) ^ (9 : Int).toNat = 1000000000 := by decide
    refine ⟨_, _, rfl, rfl, ⟨by decide, by decide, by decide⟩, _, _, rfl, rfl, _, rfl, _, _, rfl, rfl, _, _, rfl, rfl, ⟨by decide, by decide, by decide⟩, _, _, rfl, rfl, three_le, fun l2 nl2 => ?_⟩
    dsimp only
    rw [e9]
    have g7 := g6.own (o := .lst [.int i, .int (1000000000 - 1 - (n : Int)), .int (1 - 1000000000)]) nl2
    have hp7 := ln (u := .lst [.int i, .int (1000000000 - 1 - (n : Int)), .int (1 - 1000000000)]) nl2 hp5
    have hl7 : (upd H5 l2 (.lst [.int i, .int (1000000000 - 1 - (n : Int)), .int (1 - 1000000000)])) l2 = some (.lst [.int i, .int (1000000000 - 1 - (n : Int)), .int (1 - 1000000000)]) := upd_same
    have pl2 : l2 ≠ p := (ne_of_none hp5 nl2).symm
    generalize upd H5 l2 (.lst [.int i, .int (1000000000 - 1 - (n : Int)), .int (1 - 1000000000)]) = H7 at g7 hp7 hl7 ⊢
    refine ⟨_, rfl, p, a5, b5, 3, rfl, hp7, ha5, hb5, by decide, by decide, fun e a6 b6 e0 e1 ha6 hb6 => ?_⟩
    have g8 := g7.set (o := PurseO a6 b6) fp (.inr rfl)
    have hp8 : (upd H7 p (PurseO a6 b6)) p = some (PurseO a6 b6) := upd_same
    have hl8 := (upd_ne (o := PurseO a6 b6) pl2).trans hl7
    generalize upd H7 p (PurseO a6 b6) = H8 at g8 hp8 hl8 ⊢
    obtain ⟨y, hy, hy0⟩ : ∃ y : Int, atI [V.int i, V.int (1000000000 - 1 - (n : Int)), V.int (1 - 1000000000)] e = some (.int y) ∧ -999999999 ≤ y := by
      have h : e = 0 ∨ e = 1 ∨ e = 2 := by omega
      rcases h with rfl | rfl | rfl
      · exact ⟨i, rfl, by omega⟩
      · exact ⟨_, rfl, by omega⟩
      · exact ⟨_, rfl, by omega⟩
    refine ⟨l2, _, _, _, rfl, rfl, SqL.of hl8, hy, ?_⟩
    -- the widest stride
    refine ⟨four_le, fun l3 nl3 => ?_⟩
    have g9 := g8.own (o := .lst [.int 1, .int 2, .int 9, .int 20000000]) nl3
    have hp9 := ln (u := .lst [.int 1, .int 2, .int 9, .int 20000000]) nl3 hp8
    have hl9 : (upd H8 l3 (.lst [.int 1, .int 2, .int 9, .int 20000000])) l3 = some (.lst [.int 1, .int 2, .int 9, .int 20000000]) := upd_same
    have pl3 : l3 ≠ p := (ne_of_none hp8 nl3).symm
    generalize upd H8 l3 (.lst [.int 1, .int 2, .int 9, .int 20000000]) = H9 at g9 hp9 hl9 ⊢
    refine ⟨_, rfl, p, a6, b6, 4, rfl, hp9, ha6, hb6, by decide, by decide, fun f a7 b7 f0 f1 ha7 hb7 => ?_⟩
    have g10 := g9.set (o := PurseO a7 b7) fp (.inr rfl)
    have hp10 : (upd H9 p (PurseO a7 b7)) p = some (PurseO a7 b7) := upd_same
    have hl10 := (upd_ne (o := PurseO a7 b7) pl3).trans hl9
    generalize upd H9 p (PurseO a7 b7) = H10 at g10 hp10 hl10 ⊢
    obtain ⟨m, hm, m0, m1⟩ : ∃ m : Int, atI [V.int 1, V.int 2, V.int 9, V.int 20000000] f = some (.int m) ∧ 1 ≤ m ∧ m ≤ 20000000 := by
      have h : f = 0 ∨ f = 1 ∨ f = 2 ∨ f = 3 := by omega
      rcases h with rfl | rfl | rfl | rfl
      · exact ⟨1, rfl, by decide, by decide⟩
      · exact ⟨2, rfl, by decide, by decide⟩
      · exact ⟨9, rfl, by decide, by decide⟩
      · exact ⟨20000000, rfl, by decide, by decide⟩
    refine ⟨l3, _, _, _, rfl, rfl, SqL.of hl10, hm, ?_⟩
    refine ⟨nil_le, fun L nL => ?_⟩
    have g11 := g10.own (o := .lst []) nL
    have hp11 := ln (u := .lst []) nL hp10
    have w11 : Ow H F (upd H10 L (.lst [])) L (.lst []) := Ow.mk1 g10 nL
    have pL : L ≠ p := (ne_of_none hp10 nL).symm
    generalize upd H10 L (.lst []) = H11 at g11 hp11 w11 ⊢
    refine ⟨_, rfl, (n : Int), rfl, by omega, by omega, for_range (lo := 0) (n := ((n : Int)).toNat) (fun i σ G => ∃ (F2 : Hp) (xs : List V) (cs : List PI) (y a b : Int) (v5 : Option V), σ = [some (.ref p), some (.int n), some (.int y), some (.int m), some (.ref L), v5] ∧ Gr (muP p) F H F2 G ∧ G p = some (PurseO a b) ∧ 0 ≤ a ∧ 0 ≤ b ∧ Ow H F2 G L (.lst xs) ∧ IsAll F2 xs cs ∧ cs.length ≤ i ∧ -999999999 ≤ y ∧ (∀ c ∈ cs, c.a.natAbs < 1000000000 ∧ 1 ≤ c.b ∧ c.b ≤ 3 ∧ c.a < y) ∧ ∀ (k : Nat) (c d : PI), cs[k]? = some c → cs[k + 1]? = some d → c.a < d.a)
      ⟨F, [], [], y, a7, b7, none, rfl, g11, hp11, ha7, hb7, w11, All2.nil, Nat.le_refl _, hy0, (fun c z => nomatch z), (fun k c d z => nomatch z)⟩ ?_ ?_⟩
    · rintro i σ G hi ⟨F2, xs, cs, y, a, b, v5, rfl, g, hpG, ha, hb, w, al, hlen, hy0, hc, hup⟩
      refine ⟨_, rfl, _, _, rfl, rfl, ⟨by decide, by decide, by decide⟩, _, _, rfl, rfl, _, rfl, ite2 (fun c => ?A) (fun c => ?B)⟩
      case' A =>
        rw [e9] at c
        have c := of_decide_eq_true c
        refine ⟨_, rfl, .inl ⟨rfl, _, SqL.of w.h⟩, ?_⟩
        refine ⟨_, rfl, _, rfl, p, a, b, 3, rfl, hpG, ha, hb, by decide, by decide, fun z a1 b1 z0 z1 ha1 hb1 => ?_⟩
        have k1 := g.set (o := PurseO a1 b1) (g.pf fp hp) (.inr rfl)
        have w1 := w.other (u := PurseO a1 b1) pL
        have hp1 : (upd G p (PurseO a1 b1)) p = some (PurseO a1 b1) := upd_same
        generalize upd G p (PurseO a1 b1) = G1 at k1 w1 hp1 ⊢
        refine ⟨_, _, rfl, rfl, two_le, fun u nu => ?_⟩
        have k2 := k1.new (o := .tup [.int y, .int (1 + z)]) nu
        have w2 := w1.new (u := .tup [.int y, .int (1 + z)]) nu
        have hp2 := ln (u := .tup [.int y, .int (1 + z)]) nu hp1
        have hu : (upd F2 u (.tup [.int y, .int (1 + z)])) u = some (.tup [.int y, .int (1 + z)]) := upd_same
        have s2 : Same F2 (upd F2 u (.tup [.int y, .int (1 + z)])) := sm_up (k1.fh.free nu)
        dsimp only
        generalize upd G1 u (.tup [.int y, .int (1 + z)]) = G2 at k2 w2 hp2 ⊢
        generalize upd F2 u (.tup [.int y, .int (1 + z)]) = F3 at k2 w2 hu s2
        have lx : xs.length = cs.length := al.1
        refine ⟨L, _, _, rfl, rfl, w2.h, lt_size (by omega), ?_⟩
        have k3 := k2.set (o := .lst (xs ++ [.ref u])) w2.f (.inl w2.n)
        have w3 : Ow H F3 (upd G2 L (.lst (xs ++ [.ref u]))) L (.lst (xs ++ [.ref u])) := w2.set
        have hp3 := (upd_ne (o := .lst (xs ++ [.ref u])) pL.symm).trans hp2
        have al3 : IsAll F3 (xs ++ [.ref u]) (cs ++ [(⟨y, 1 + z⟩ : PI)]) := (al.up s2).app (All2.one ⟨u, _, _, rfl, hu, rfl, rfl⟩)
        generalize upd G2 L (.lst (xs ++ [.ref u])) = G3 at k3 w3 hp3 ⊢
        have hc3 : ∀ c ∈ cs ++ [(⟨y, 1 + z⟩ : PI)], c.a.natAbs < 1000000000 ∧ 1 ≤ c.b ∧ c.b ≤ 3 ∧ c.a < y + 1 := fun c mc => by
          rcases List.mem_append.mp mc with mc | mc
          · have := hc c mc; omega
          · rw [List.mem_singleton.mp mc]; dsimp only; omega
        have hup3 : ∀ (k : Nat) (c d : PI), (cs ++ [(⟨y, 1 + z⟩ : PI)])[k]? = some c → (cs ++ [(⟨y, 1 + z⟩ : PI)])[k + 1]? = some d → c.a < d.a := fun k c d h1 h2 => by
          have kl := (List.getElem?_eq_some_iff.mp h2).1
          rw [List.length_append, List.length_singleton] at kl
          rw [List.getElem?_append_left (by omega)] at h1
          by_cases kk : k + 1 < cs.length
          · rw [List.getElem?_append_left kk] at h2
            exact hup k c d h1 h2
          · rw [List.getElem?_append_right (by omega), show k + 1 - cs.length = 0 by omega] at h2
            have h2 : (⟨y, 1 + z⟩ : PI) = d := Option.some.inj h2
            rw [← h2]
            exact (hc c (List.mem_of_getElem? h1)).2.2.2
        have hlen3 : (cs ++ [(⟨y, 1 + z⟩ : PI)]).length ≤ i + 1 := by rw [List.length_append, List.length_singleton]; omega
        generalize xs ++ [V.ref u] = xs3 at w3 al3
        generalize cs ++ [(⟨y, 1 + z⟩ : PI)] = cs3 at al3 hc3 hup3 hlen3
      case' B =>
        obtain ⟨F3, xs3, cs3, a1, b1, k3, hp3, ha1, hb1, w3, al3, hlen3, hc3, hup3⟩ : ∃ (F3 : Hp) (xs3 : List V) (cs3 : List PI) (a1 b1 : Int), Gr (muP p) F H F3 G ∧ G p = some (PurseO a1 b1) ∧ 0 ≤ a1 ∧ 0 ≤ b1 ∧ Ow H F3 G L (.lst xs3) ∧ IsAll F3 xs3 cs3 ∧ cs3.length ≤ i + 1 ∧ (∀ c ∈ cs3, c.a.natAbs < 1000000000 ∧ 1 ≤ c.b ∧ c.b ≤ 3 ∧ c.a < y + 1) ∧ ∀ (k : Nat) (c d : PI), cs3[k]? = some c → cs3[k + 1]? = some d → c.a < d.a :=
          ⟨F2, xs, cs, a, b, g, hpG, ha, hb, w, al, by omega, fun c mc => by have := hc c mc; omega, hup⟩
      all_goals
        refine ⟨_, rfl, _, _, rfl, rfl, _, rfl, _, rfl, p, a1, b1, m, rfl, hp3, ha1, hb1, by omega, by omega, fun v a4 b4 v0 v1 ha4 hb4 => ?_⟩
        have k4 := k3.set (o := PurseO a4 b4) (k3.pf fp hp) (.inr rfl)
        exact ⟨_, _, rfl, rfl, F3, xs3, cs3, _, a4, b4, _, rfl, k4, upd_same, ha4, hb4, w3.other pL, al3, hlen3, by omega, fun c mc => by have := hc3 c mc; omega, hup3⟩
    · rintro σ G ⟨F2, xs, cs, y, a, b, v5, rfl, g, hpG, ha, hb, w, al, hlen, hy0, hc, hup⟩
      refine ⟨_, rfl, p, a, b, 4, rfl, hpG, ha, hb, by decide, by decide, fun r a1 b1 r0 r1 ha1 hb1 => ?_⟩
      have k1 := g.set (o := PurseO a1 b1) (g.pf fp hp) (.inr rfl)
      have w1 := w.other (u := PurseO a1 b1) pL
      have hp1 : (upd G p (PurseO a1 b1)) p = some (PurseO a1 b1) := upd_same
      generalize upd G p (PurseO a1 b1) = G1 at k1 w1 hp1 ⊢
      refine ⟨_, rfl, F2, p, a1, b1, rfl, k1.fh, g.pf fp hp, hp1, ha1, hb1, fun G2 j a2 b2 k2 hp2 ha2 hb2 hj => ?_⟩
      have w2 := w1.call k2 pL
      refine ⟨_, rfl, three_le, fun u nu => ?_⟩
      have k3 := (k1.trans k2).frz w2.h w2.n w2.f
      have k4 := k3.new (o := .tup [.int r, .int j, .ref L]) nu
      refine q _ _ (.ref u) ⟨r, j, cs⟩ a2 b2 k4 (ln nu hp2) ha2 hb2 ⟨u, _, _, _, rfl, upd_same, rfl, rfl, L, xs, rfl, ?_, ?_⟩ ⟨r0, r1, hj, fun c mc => by have := hc c mc; exact ⟨this.1, this.2.1, this.2.2.1⟩, by dsimp only; omega, hup⟩
      · have : L ≠ u := ne_of_none w2.h nu
        rw [upd_ne this, upd_same]
      · refine al.up fun c o h => ?_
        have n1 : c ≠ L := ne_of_none h w2.f
        have n2 : c ≠ u := ne_of_none (k2.fh _ _ h) nu
        rw [upd_ne n2, upd_ne n1]; exact h
theorem gr_same {F H H1 : Hp} (f : Same F H) (s : Same H H1) : Gr mu0 F H F H1 := ⟨fun _ _ h => h, fun c o h => s _ _ (f _ _ h), fun _ _ h => .inl h, fun c o h _ => s _ _ h, fun c h => s.free h⟩
theorem gr_up {F H F1 H1 : Hp} (g : Gr mu0 F H F1 H1) : Same H H1 := fun c o h => g.fr c o h (fun z => z)
/-- a setup read is the setup kept -/
theorem sm_pair {H : Hp} {x y : V} {c : PI} (hx : Is H x c) (hy : Is H y c) : Sm H 3 x y := by
  obtain ⟨p, x1, x2, rfl, hp, e1, e2⟩ := hx
  obtain ⟨q, y1, y2, rfl, hq, d1, d2⟩ := hy
  have e1 : x1 = .int c.a := e1
  have e2 : x2 = .int c.b := e2
  have d1 : y1 = .int c.a := d1
  have d2 : y2 = .int c.b := d2
  subst e1 e2 d1 d2
  refine .inr ⟨p, q, _, _, rfl, rfl, .inr ⟨hp, hq⟩, rfl, by show 2 ≤ 1000; decide, fun k u v h1 h2 => ?_⟩
  match k, h1, h2 with
  | 0, h1, h2 =>
    cases h1; cases h2
    exact .inl ⟨_, rfl, rfl⟩
  | 1, h1, h2 =>
    cases h1; cases h2
    exact .inl ⟨_, rfl, rfl⟩
theorem sm_setup {H : Hp} {v l : Addr} {xs : List V} {u : V} {x : Setup} (hv : H v = some (.tup [.int x.a, .int x.b, .ref l])) (hl : H l = some (.lst xs)) (al : IsAll H xs x.c) (hn : x.c.length ≤ 40) (hu : Is H u x) : Sm H 5 (.ref v) u := by
  obtain ⟨p, x1, x2, x3, rfl, hp, e1, e2, l2, cs, rfl, hl2, hcs⟩ := hu
  have e1 : x1 = .int x.a := e1
  have e2 : x2 = .int x.b := e2
  subst e1 e2
  refine .inr ⟨v, p, _, _, rfl, rfl, .inr ⟨hv, hp⟩, rfl, by show 3 ≤ 1000; decide, fun k u w h1 h2 => ?_⟩
  have lx : xs.length = x.c.length := al.1
  have lc : cs.length = x.c.length := hcs.1
  match k, h1, h2 with
  | 0, h1, h2 =>
    cases h1; cases h2
    exact .inl ⟨_, rfl, rfl⟩
  | 1, h1, h2 =>
    cases h1; cases h2
    exact .inl ⟨_, rfl, rfl⟩
  | 2, h1, h2 =>
    cases h1; cases h2
    refine .inr ⟨l, l2, xs, cs, rfl, rfl, .inl ⟨hl, hl2⟩, by omega, by omega, fun k u w h1 h2 => ?_⟩
    obtain ⟨c, hc, h3⟩ := al.get' h1
    obtain ⟨d, hd, h4⟩ := hcs.get' h2
    rw [hc] at hd
    cases hd
    exact sm_pair h3 h4
/-- a setup far away -/
def farP (f : Int) (c : PI) : PI := ⟨c.a + f, c.b⟩
def farS (f : Int) (x : Setup) : Setup := ⟨x.a, x.b + f, x.c.map (farP f)⟩
theorem far_ok {x : Setup} {f : Int} (h : RdOk x) (h0 : f.natAbs ≤ 2000000000000000000000000000000) : SetOk (farS f x) := by
  refine ⟨h.a0, h.a1, ?_, fun c m => ?_, by show (x.c.map _).length ≤ 40; rw [List.length_map]; exact h.n⟩
  · have := h.b
    show (x.b + f).natAbs < _
    omega
  · obtain ⟨d, hd, rfl⟩ := List.mem_map.mp m
    have := h.c d hd
    refine ⟨?_, ?_⟩
    · show (d.a + f).natAbs < _
      omega
    · show d.b.natAbs < _
      omega
def sp_law (K : PySem.W.Frag) : Sp := fun vs H Q _ => ∃ (a : Addr) (ns : List Int), vs = [.ref a] ∧ SqL K H a (ns.map V.int) ∧ ns.length ≤ 63 ∧ ∀ H', Q (.bl true) H'
theorem ok_law (t : Tx K mg) : FnOk P w K mg base CX0 7 t.a_law t.fd_law ["_law_script"] (sp_law K) := by
  refine t.F_law.ok sc_law (fun vs H Q E h => ?_) (fun cdv A outer s H vs Q E hr h => ?_)
  · obtain ⟨a, ns, rfl, _⟩ := h
    rfl
  · obtain ⟨a, ns, rfl, hS, hn, q⟩ := h
    refine ⟨_, (pss_cons (ps_set (i := 1) sc_law.nd rfl (by first | exact Or.inl rfl | exact Or.inr rfl) (pe_call (ok_L_purse t) (hr.mono (by decide)) (by rfl) t.m_L_purse t.F_L_purse.kp t.b_L_purse .nil pass0 (pa_cons (pv 0) pa_nil)))
      (pss_cons (ps_for PassesOwn.never rfl (pi_range1 (by rfl) t.n_range (pa_cons pe_int pa_nil)) (pg_name (i := 2) sc_law.nd rfl (by first | exact Or.inl rfl | exact Or.inr rfl)) (pss_cons (ps_set (i := 3) sc_law.nd rfl (by first | exact Or.inl rfl | exact Or.inr rfl) (pe_call (ok_L_setup t) (hr.mono (by decide)) (by rfl) t.m_L_setup t.F_L_setup.kp t.b_L_setup .nil pass0 (pa_cons (pv 1) pa_nil)))
      (pss_cons (ps_set (i := 4) sc_law.nd rfl (by first | exact Or.inl rfl | exact Or.inr rfl) (pe_tup (pa_cons (pe_ix ix_tup (pv 3) pe_int (fun _ _ => rfl)) (pa_cons (pe_ix ix_tup (pv 3) pe_int (fun _ _ => rfl)) (pa_cons (pe_callTy (T := "list") call_listQ (by rfl) t.n_list (by decide +kernel) (pa_cons (pe_ix ix_tup (pv 3) pe_int (fun _ _ => rfl)) pa_nil)) pa_nil)))))
      (pss_cons (ps_set (i := 5) sc_law.nd rfl (by first | exact Or.inl rfl | exact Or.inr rfl) (pe_call (ok_L_setup_text t) (hr.mono (by decide)) (by rfl) t.m_L_setup_text t.F_L_setup_text.kp t.b_L_setup_text .nil pass0 (pa_cons (pv 3) pa_nil)))
      (pss_cons (ps_for PassesOwn.never rfl (pi_range1 (by rfl) t.n_range (pa_cons pe_int pa_nil)) (pg_name (i := 6) sc_law.nd rfl (by first | exact Or.inl rfl | exact Or.inr rfl)) (pss_cons (ps_set (i := 7) sc_law.nd rfl (by first | exact Or.inl rfl | exact Or.inr rfl) (pe_call (ok_show_setup t) (hr.mono (by decide)) (by rfl) t.m_show_setup t.F_show_setup.kp t.b_show_setup .nil pass0 (pa_cons (pv 3) pa_nil)))
      (pss_cons (ps_if (PW.pt (pw_or (pt_not (pt_val (pe_callB (id := "isinstance") call_isi (by rfl) t.n_isinstance (by decide +kernel) (pa_cons (pv 7) (pa_cons (pe_bltn (v := .ty "str") (by rfl) t.n_str (by decide +kernel) rfl) pa_nil))))) (pw_or (pt_cmpR op_ne (pv 7) (pv 5) (nomark _)) (pw_or1 (pt_cmpR (op_neD hr.units) (pv 3) (pv 4) (nomark _)))))) (pss_one (ps_ret pe_bl)) pss_nil)
      (pss_cons (ps_set (i := 8) sc_law.nd rfl (by first | exact Or.inl rfl | exact Or.inr rfl) (pe_call (ok_read_setup t) (hr.mono (by decide)) (by rfl) t.m_read_setup t.F_read_setup.kp t.b_read_setup .nil pass0 (pa_cons (pv 5) pa_nil)))
      (pss_cons (ps_if (pt_not (pt_val (pe_call (ok_L_same t) (hr.mono (by decide)) (by rfl) t.m_L_same t.F_L_same.kp t.b_L_same .nil pass0 (pa_cons (pv 8) (pa_cons (pv 4) pa_nil))))) (pss_one (ps_ret pe_bl)) pss_nil)
      (pss_one (ps_expr (pe_bm PySem.F.plainAttrs_list PySem.F.slot_list_append PySem.F.type_list_append mt_append (pe_ix ix_tup (pv 8) pe_int (fun _ _ => rfl)) (pa_cons (pe_tup (pa_cons pe_int (pa_cons pe_int pa_nil))) pa_nil)))))))))
      (pss_cons (ps_set (i := 9) sc_law.nd rfl (by first | exact Or.inl rfl | exact Or.inr rfl) (pe_op op_add (pe_op op_sub (pe_call (ok_L_draw t) (hr.mono (by decide)) (by rfl) t.m_L_draw t.F_L_draw.kp t.b_L_draw .nil pass0 (pa_cons (pv 1) (pa_cons (pe_op op_sub (pe_op op_mul pe_int (pe_op op_pow pe_int pe_int)) (pe_op op_pow pe_int pe_int)) pa_nil))) (pe_op op_pow pe_int pe_int)) (pe_op op_mul pe_int (pe_op op_pow pe_int pe_int))))
      (pss_cons (ps_setLc (i := 10) (own := [("_law_place_here", 11), ("_law_sign", 12)]) (tt := tYes) rfl sc_law.nd rfl rfl (sw_true rfl rfl rfl (by decide +kernel)) (pi_list (pe_ix ix_tup (pv 4) pe_int (fun _ _ => rfl))) (blkOk_by (N := N_law) (sc := defScope s_law) (by decide +kernel)) (fun _ _ _ _ _ => (pg_tupK (K := K) (n := 2) rfl rfl (pgs_cons (pg_name (i := 11) sc_law.nd rfl (by first | exact Or.inl rfl | exact Or.inr rfl)) (pgs_cons (pg_name (i := 12) sc_law.nd rfl (by first | exact Or.inl rfl | exact Or.inr rfl)) pgs_nil)))) (fun _ _ _ _ _ => pts_nil) (fun _ _ _ _ _ => (pe_tup (pa_cons (pe_op op_add (pv 11) (pv 9)) (pa_cons (pv 12) pa_nil)))))
      (pss_cons (ps_set (i := 13) sc_law.nd rfl (by first | exact Or.inl rfl | exact Or.inr rfl) (pe_tup (pa_cons (pe_ix ix_tup (pv 4) pe_int (fun _ _ => rfl)) (pa_cons (pe_op op_add (pe_ix ix_tup (pv 4) pe_int (fun _ _ => rfl)) (pv 9)) (pa_cons (pv 10) pa_nil)))))
      (pss_cons (ps_set (i := 5) sc_law.nd rfl (by first | exact Or.inl rfl | exact Or.inr rfl) (pe_call (ok_L_setup_text t) (hr.mono (by decide)) (by rfl) t.m_L_setup_text t.F_L_setup_text.kp t.b_L_setup_text .nil pass0 (pa_cons (pv 13) pa_nil)))
      (pss_cons (ps_if (pt_cmpR op_ne (pe_call (ok_show_setup t) (hr.mono (by decide)) (by rfl) t.m_show_setup t.F_show_setup.kp t.b_show_setup .nil pass0 (pa_cons (pv 13) pa_nil)) (pv 5) (nomark _)) (pss_one (ps_ret pe_bl)) pss_nil)
      (pss_one (ps_if (pt_cmpR (op_neD hr.units) (pv 10) (pe_lc (own := [("_law_place_here", 11), ("_law_sign", 12)]) (tt := tYes) rfl sc_law.nd (pi_list (pe_ix ix_tup (pv 4) pe_int (fun _ _ => rfl))) (blkOk_by (N := N_law) (sc := defScope s_law) (by decide +kernel)) (fun _ _ _ _ _ => (pg_tupK (K := K) (n := 2) rfl rfl (pgs_cons (pg_name (i := 11) sc_law.nd rfl (by first | exact Or.inl rfl | exact Or.inr rfl)) (pgs_cons (pg_name (i := 12) sc_law.nd rfl (by first | exact Or.inl rfl | exact Or.inr rfl)) pgs_nil)))) (fun _ _ _ _ _ => pts_nil) (fun _ _ _ _ _ => (pe_tup (pa_cons (pe_op op_add (pv 11) (pv 9)) (pa_cons (pv 12) pa_nil))))) (nomark _)) (pss_one (ps_ret pe_bl)) pss_nil))))))))))))
      (pss_one (ps_ret pe_bl)))), ?_⟩
    refine ⟨_, rfl, a, ns, rfl, hS, hn, fun a0 b0 p H1 ha0 hb0 s1 np hp1 => ?_⟩
    refine ⟨8, rfl, by decide, by decide, for_range (lo := 0) (n := 8) (fun i σ G => ∃ (F : Hp) (a1 b1 : Int) (v2 v3 v4 v5 v6 v7 v8 v9 v10 v11 v12 v13 : Option V), σ = [some (.ref a), some (.ref p), v2, v3, v4, v5, v6, v7, v8, v9, v10, v11, v12, v13] ∧ Gr (muP p) H H1 F G ∧ G p = some (PurseO a1 b1) ∧ 0 ≤ a1 ∧ 0 ≤ b1) ⟨H, a0, b0, none, none, none, none, none, none, none, none, none, none, none, none, rfl, Gr.refl s1, hp1, ha0, hb0⟩ ?_ ?_⟩
    · rintro i σ G hi ⟨F, a1, b1, v2, v3, v4, v5, v6, v7, v8, v9, v10, v11, v12, v13, rfl, g, hpG, ha1, hb1⟩
      refine ⟨_, rfl, F, p, a1, b1, rfl, g.fh, g.pf np hp1, hpG, ha1, hb1, fun F2 H2 v x a2 b2 g2 hp2 ha2 hb2 hv hx => ?_⟩
      obtain ⟨sa, x1, x2, x3, rfl, hsa, e1, e2, l, cs, rfl, hl, hcs⟩ := id hv
      have e1 : x1 = .int x.a := e1
      have e2 : x2 = .int x.b := e2
      subst e1
      subst e2
      have hT := SqT.of (K := K) (g2.fh _ _ hsa)
      refine ⟨_, rfl, sa, _, _, _, rfl, rfl, hT, atI_nat (j := 0) rfl, _, rfl, sa, _, _, _, rfl, rfl, hT, atI_nat (j := 1) rfl, _, rfl, sa, _, _, _, rfl, rfl, hT, atI_nat (j := 2) rfl, l, _, rfl, .inl (SqL.of (g2.fh _ _ hl)), fun l2 nl2 => ⟨three_le, fun k nk => ?_⟩⟩
      have gp : Gr (muP p) H H1 F2 H2 := g.trans g2
      have g3 := gp.new (o := .lst cs) nl2
      have g4 := g3.new (o := .tup [.int x.a, .int x.b, .ref l2]) nk
      have hp4 := ln (u := .tup [.int x.a, .int x.b, .ref l2]) nk (ln (u := .lst cs) nl2 hp2)
      have s4 : Same F2 (upd (upd F2 l2 (.lst cs)) k (.tup [.int x.a, .int x.b, .ref l2])) := fun c o h => by
        have n1 : c ≠ l2 := ne_of_none (gp.fh _ _ h) nl2
        have n2 : c ≠ k := ne_of_none (g3.fh _ _ (by rw [upd_ne n1]; exact h)) nk
        rw [upd_ne n2, upd_ne n1]; exact h
      have hk : Is (upd (upd F2 l2 (.lst cs)) k (.tup [.int x.a, .int x.b, .ref l2])) (.ref k) x :=
        ⟨k, _, _, _, rfl, upd_same, rfl, rfl, l2, cs, rfl, by rw [upd_ne (ne_of_none (g3.fh l2 _ upd_same) nk)]; exact upd_same, hcs.up s4⟩
      generalize upd (upd H2 l2 (.lst cs)) k (.tup [.int x.a, .int x.b, .ref l2]) = H4 at g4 hp4 ⊢
      generalize upd (upd F2 l2 (.lst cs)) k (.tup [.int x.a, .int x.b, .ref l2]) = F4 at g4 s4 hk
      have hv4 := hv.up s4
      refine ⟨_, rfl, F4, .ref sa, x, rfl, g4.fh, hv4, hx.set, fun H5 g5 => ?_⟩
      refine ⟨2, rfl, by decide, by decide, for_range (lo := 0) (n := 2) (fun j σ G => ∃ (F : Hp) (v6 v7 v8 : Option V), σ = [some (.ref a), some (.ref p), some (.int (0 + (i : Int))), some (.ref sa), some (.ref k), some (.str (setT x)), v6, v7, v8, v9, v10, v11, v12, v13] ∧ Gr mu0 F4 H4 F G) ⟨F4, v6, v7, v8, rfl, g5⟩ ?_ ?_⟩
      · rintro j σ G hj ⟨F5, v6, v7, v8, rfl, g6⟩
        refine ⟨_, rfl, F5, .ref sa, x, rfl, g6.fh, hv4.up g6.ff, hx.set, fun H6 g7 => ?_⟩
        have g8 := g6.trans g7
        refine ⟨_, rfl, _, _, _, _, true, rfl, .ty "str", .base (.str _), kit_ty (by decide +kernel), _, rfl, ifF rfl ?_⟩
        refine ⟨_, rfl, _, rfl, rfl, _, rfl, ifF (by rw [decide_eq_true rfl]; rfl) ?_⟩
        refine ⟨_, rfl, _, rfl, ne_dat (a := x) (b := x) ((hv4.up g8.ff).up g8.fh) ((hk.up g8.ff).up g8.fh) ⟨_, rfl, ifF (by rw [decide_eq_true rfl]; rfl) ?_⟩⟩
        refine ⟨_, rfl, F5, x, rfl, g8.fh, hx, fun F7 H7 fl fv xs g9 wl al wv => ?_⟩
        have g10 := g8.trans g9
        refine ⟨_, rfl, _, rfl, H7, _, _, rfl, Same.refl _, sm_setup wv.h wl.h (al.up g9.fh) hx.n ((hk.up g10.ff).up g10.fh), fun H8 g11 => ⟨_, rfl, ifF rfl ?_⟩⟩
        have s8 := gr_up g11
        have g12 := g10.trans (gr_same g10.fh s8)
        refine ⟨_, rfl, fv, _, _, _, rfl, rfl, SqT.of (s8 _ _ wv.h), atI_nat (j := 2) rfl, .inl ⟨rfl, _, SqL.of (s8 _ _ wl.h)⟩, two_le, fun u nu => ?_⟩
        have g13 := g12.own (o := .tup [.int 7, .int 1]) nu
        have hl13 := ln (u := .tup [.int 7, .int 1]) nu (s8 _ _ wl.h)
        have n40 := hx.n
        have lx : xs.length = x.c.length := al.1
        refine ⟨fl, _, _, rfl, rfl, hl13, lt_size (by omega), ?_⟩
        exact ⟨F7, _, _, _, rfl, g13.set wl.f (.inl (g8.th _ wl.n))⟩
      · rintro σ G ⟨F5, v6, v7, v8, rfl, g6⟩
        have g7 := g4.trans (g6.weak (mu' := muP p) fun c z => z.elim)
        have hp7 := g6.fr _ _ hp4 (fun z => z)
        refine ⟨_, rfl, _, _, rfl, rfl, ⟨by decide, by decide, by decide⟩, _, _, rfl, rfl, .inl ⟨by decide, by decide⟩, _, _, rfl, rfl, ⟨by decide, by decide, by decide⟩, _, _, rfl, rfl, p, a2, b2, 1999999999999999999990000000000, congrArg (fun z => [V.ref p, V.int z]) (by decide), hp7, ha2, hb2, by decide, by decide, fun d a3 b3 d0 d1 ha3 hb3 => ?_⟩
        have fp7 : F5 p = none := g7.pf np hp1
        have g8 := g7.set (o := PurseO a3 b3) fp7 (.inr rfl)
        have hp8 : (upd G p (PurseO a3 b3)) p = some (PurseO a3 b3) := upd_same
        generalize upd G p (PurseO a3 b3) = G8 at g8 hp8 ⊢
        refine ⟨_, _, rfl, rfl, ⟨by decide, by decide, by decide⟩, _, _, rfl, rfl, _, _, rfl, rfl, ⟨by decide, by decide, by decide⟩, _, _, rfl, rfl, .inl ⟨by decide, by decide⟩, _, _, rfl, rfl, ?_⟩
        obtain ⟨f, hf, hfb⟩ : ∃ f : Int, d - 10 ^ Int.toNat 30 + 5 * 10 ^ Int.toNat 9 = f ∧ f.natAbs ≤ 2000000000000000000000000000000 := ⟨_, rfl, by
          rw [show (10 : Int) ^ Int.toNat 30 = 1000000000000000000000000000000 by decide, show (10 : Int) ^ Int.toNat 9 = 1000000000 by decide]
          omega⟩
        dsimp only
        rw [hf]
        obtain ⟨ka, y1, y2, y3, ek, hka, d1, d2, m2, ds, rfl, hm2, hds⟩ := hk.up g6.ff
        cases ek
        have d1 : y1 = .int x.a := d1
        have d2 : y2 = .int x.b := d2
        subst d1
        subst d2
        have n40 := hx.n
        have lds : ds.length = x.c.length := hds.1
        refine ⟨_, rfl, k, _, _, _, rfl, rfl, SqT.of (g8.fh _ _ hka), atI_nat (j := 2) rfl, m2, rfl, ⟨_, SqL.of (g8.fh _ _ hm2)⟩, fun D nD => lc_list (K := K) (a := m2) (xs := ds) (fun i G => ∃ (F6 : Hp) (xs : List V), Gr (muP p) H H1 F6 G ∧ Same F5 F6 ∧ G p = some (PurseO a3 b3) ∧ Ow H1 F6 G D (.lst xs) ∧ IsAll F6 xs ((x.c.take i).map (farP f))) ⟨F5, [], g8.own nD, Same.refl _, ln nD hp8, Ow.mk1 g8 nD, All2.nil⟩ (fun i G _ p => SqL.of (p.choose_spec.choose_spec.1.fh _ _ (p.choose_spec.choose_spec.2.1 _ _ hm2))) ?_ ?_⟩
        · rintro i y G hi ⟨F6, xs, g, s6, hpG, w, al⟩
          obtain ⟨c, hc, b, z1, z2, rfl, hb, e1, e2⟩ := hds.get' hi
          have e1 : z1 = .int c.a := e1
          have e2 : z2 = .int c.b := e2
          subst e1
          subst e2
          have il := (List.getElem?_eq_some_iff.mp hi).1
          refine ⟨b, _, rfl, SqT.of (g.fh _ _ (s6 _ _ hb)), rfl, _, _, rfl, _, _, rfl, rfl, rfl, yes ⟨_, rfl, _, rfl, _, _, rfl, rfl, _, rfl, two_le, fun u nu => ?_⟩⟩
          have k1 := g.new (o := .tup [.int (c.a + f), .int c.b]) nu
          have w1 := w.new (u := .tup [.int (c.a + f), .int c.b]) nu
          have s1 : Same F6 (upd F6 u (.tup [.int (c.a + f), .int c.b])) := sm_up (g.fh.free nu)
          have l1 : xs.length = ((x.c.take i).map (farP f)).length := al.1
          rw [List.length_map, List.length_take] at l1
          have pD : D ≠ p := fun z => by have := w.n; rw [z, hp1] at this; cases this
          refine ⟨_, w1.h, lt_size (by omega), _, xs ++ [.ref u], k1.set w1.f (.inl w1.n), fun c o h => s1 _ _ (s6 _ _ h), (upd_ne pD.symm).trans (ln nu hpG), w1.set, ?_⟩
          rw [List.take_add_one, hc, List.map_append]
          exact (al.up s1).app (All2.one ⟨u, _, _, rfl, upd_same, rfl, rfl⟩)
        · rintro G ⟨F6, xs, g, s6, hpG, w, al⟩
          rw [lds, List.take_length] at al
          have gz := g.frz w.h w.n w.f
          have hD : (upd F6 D (.lst xs)) D = some (.lst xs) := upd_same
          have s7 : Same F6 (upd F6 D (.lst xs)) := sm_up w.f
          have s57 : Same F5 (upd F6 D (.lst xs)) := fun c o h => s7 _ _ (s6 _ _ h)
          have al := al.up s7
          generalize upd F6 D (.lst xs) = F7 at gz hD s7 s57 al
          have isD : Is F7 (.ref D) (x.c.map (farP f)) := ⟨D, xs, rfl, hD, al⟩
          have hT7 := SqT.of (K := K) (gz.fh _ _ (s57 _ _ hka))
          refine ⟨_, rfl, k, _, _, _, rfl, rfl, hT7, atI_nat (j := 0) rfl, _, rfl, k, _, _, _, rfl, rfl, hT7, atI_nat (j := 1) rfl, _, rfl, _, _, rfl, rfl, _, rfl, three_le, fun o no => ?_⟩
          have g9 := gz.new (o := .tup [.int x.a, .int (x.b + f), .ref D]) no
          have hp9 := ln (u := .tup [.int x.a, .int (x.b + f), .ref D]) no hpG
          have s9 : Same F7 (upd F7 o (.tup [.int x.a, .int (x.b + f), .ref D])) := sm_up (gz.fh.free no)
          have iso : Is (upd F7 o (.tup [.int x.a, .int (x.b + f), .ref D])) (.ref o) (farS f x) := ⟨o, _, _, _, rfl, upd_same, rfl, rfl, isD.up s9⟩
          dsimp only
          generalize upd G o (.tup [.int x.a, .int (x.b + f), .ref D]) = G9 at g9 hp9 ⊢
          generalize upd F7 o (.tup [.int x.a, .int (x.b + f), .ref D]) = F9 at g9 s9 iso
          have isD9 := isD.up s9
          have s59 : Same F5 F9 := fun c o h => s9 _ _ (s57 _ _ h)
          refine ⟨_, rfl, F9, .ref o, farS f x, rfl, g9.fh, iso, far_ok hx hfb, fun H10 g10 => ?_⟩
          refine ⟨_, rfl, F9, .ref o, farS f x, rfl, g10.fh, iso, far_ok hx hfb, fun H11 g11 => ⟨_, rfl, rfl, _, rfl, ifF (by rw [decide_eq_true rfl]; rfl) ?_⟩⟩
          have ga := g10.trans g11
          have g12 := g9.trans (ga.weak (mu' := muP p) fun c z => z.elim)
          have hp12 := ga.fr _ _ hp9 (fun z => z)
          refine ⟨_, rfl, _, rfl, k, _, _, _, rfl, rfl, SqT.of (g12.fh _ _ (s59 _ _ hka)), atI_nat (j := 2) rfl, m2, rfl, ⟨_, SqL.of (g12.fh _ _ (s59 _ _ hm2))⟩, fun D2 nD2 => lc_list (K := K) (a := m2) (xs := ds) (fun i G => ∃ (F6 : Hp) (xs : List V), Gr (muP p) H H1 F6 G ∧ Same F9 F6 ∧ G p = some (PurseO a3 b3) ∧ Ow H1 F6 G D2 (.lst xs) ∧ IsAll F6 xs ((x.c.take i).map (farP f))) ⟨F9, [], g12.own nD2, Same.refl _, ln nD2 hp12, Ow.mk1 g12 nD2, All2.nil⟩ (fun i G _ p => SqL.of (p.choose_spec.choose_spec.1.fh _ _ (p.choose_spec.choose_spec.2.1 _ _ (s59 _ _ hm2)))) ?_ ?_⟩
          · rintro i y G hi ⟨F6, xs, g, s6, hpG, w, al⟩
            obtain ⟨c, hc, b, z1, z2, rfl, hb, e1, e2⟩ := hds.get' hi
            have e1 : z1 = .int c.a := e1
            have e2 : z2 = .int c.b := e2
            subst e1
            subst e2
            have il := (List.getElem?_eq_some_iff.mp hi).1
            refine ⟨b, _, rfl, SqT.of (g.fh _ _ (s6 _ _ (s59 _ _ hb))), rfl, _, _, rfl, _, _, rfl, rfl, rfl, yes ⟨_, rfl, _, rfl, _, _, rfl, rfl, _, rfl, two_le, fun u nu => ?_⟩⟩
            have k1 := g.new (o := .tup [.int (c.a + f), .int c.b]) nu
            have w1 := w.new (u := .tup [.int (c.a + f), .int c.b]) nu
            have s1 : Same F6 (upd F6 u (.tup [.int (c.a + f), .int c.b])) := sm_up (g.fh.free nu)
            have l1 : xs.length = ((x.c.take i).map (farP f)).length := al.1
            rw [List.length_map, List.length_take] at l1
            have pD : D2 ≠ p := fun z => by have := w.n; rw [z, hp1] at this; cases this
            refine ⟨_, w1.h, lt_size (by omega), _, xs ++ [.ref u], k1.set w1.f (.inl w1.n), fun c o h => s1 _ _ (s6 _ _ h), (upd_ne pD.symm).trans (ln nu hpG), w1.set, ?_⟩
            rw [List.take_add_one, hc, List.map_append]
            exact (al.up s1).app (All2.one ⟨u, _, _, rfl, upd_same, rfl, rfl⟩)
          · rintro G ⟨F6, xs2, g, s6, hpG, w, al2⟩
            rw [lds, List.take_length] at al2
            refine ne_dat (a := x.c.map (farP f)) (b := x.c.map (farP f)) ((isD9.up s6).up g.fh) ⟨D2, xs2, rfl, w.h, al2.up g.fh⟩ ⟨_, rfl, ifF (by rw [decide_eq_true rfl]; rfl) ?_⟩
            exact ⟨F6, a3, b3, _, _, _, _, _, _, _, _, _, _, _, _, rfl, g, hpG, ha3, hb3⟩
    · rintro σ G ⟨F, a1, b1, v2, v3, v4, v5, v6, v7, v8, v9, v10, v11, v12, v13, rfl, _⟩
      exact q _

end
def all_tx {K : PySem.W.Frag} {h : Heap} {mg : Str → Option Value} {a_L_mixed a_L_purse a_L_draw a_L_place a_L_setup a_L_setup_text a_show_setup a_must a_read_place a_read_sign a_read_setup a_L_same a_law C_NoText : Addr} {od_L_mixed an_L_mixed od_L_purse an_L_purse od_L_draw an_L_draw od_L_place an_L_place od_L_setup an_L_setup od_L_setup_text an_L_setup_text od_show_setup an_show_setup od_must an_must od_read_place an_read_place od_read_sign an_read_sign od_read_setup an_read_setup od_L_same an_L_same od_law an_law : Option Addr} {sl_L_mixed sl_L_purse sl_L_draw sl_L_place sl_L_setup sl_L_setup_text sl_show_setup sl_must sl_read_place sl_read_sign sl_read_setup sl_L_same sl_law : Array (Option Value)} {oc_L_mixed kV_L_mixed dc_L_mixed pm_L_mixed cd_L_mixed ct_L_mixed oc_L_purse kV_L_purse dc_L_purse pm_L_purse cd_L_purse ct_L_purse oc_L_draw kV_L_draw dc_L_draw pm_L_draw cd_L_draw ct_L_draw oc_L_place kV_L_place dc_L_place pm_L_place cd_L_place ct_L_place oc_L_setup kV_L_setup dc_L_setup pm_L_setup cd_L_setup ct_L_setup oc_L_setup_text kV_L_setup_text dc_L_setup_text pm_L_setup_text cd_L_setup_text ct_L_setup_text oc_show_setup kV_show_setup dc_show_setup pm_show_setup cd_show_setup ct_show_setup oc_must kV_must dc_must pm_must cd_must ct_must oc_read_place kV_read_place dc_read_place pm_read_place cd_read_place ct_read_place oc_read_sign kV_read_sign dc_read_sign pm_read_sign cd_read_sign ct_read_sign oc_read_setup kV_read_setup dc_read_setup pm_read_setup cd_read_setup ct_read_setup oc_L_same kV_L_same dc_L_same pm_L_same cd_L_same ct_L_same oc_law kV_law dc_law pm_law cd_law ct_law : Value} {tk_ROWS tk_FIGURES : Tok} (X : K.In h) (G : h.Ns mainGlobals mg)
    (n_NoText : PySem.W.nsIn K mainGlobals "NoText" = some (some (.ref C_NoText)))
    (n_L_mixed : PySem.W.nsIn K mainGlobals "_law_mixed" = some (some (.ref a_L_mixed)))
    (l_L_mixed : K.lookup a_L_mixed = some ⟨oc_L_mixed, od_L_mixed, .func (PySem.W.fnOf "_law_mixed" "_law_mixed" (defArgs s_L_mixed) (defBody s_L_mixed) (defScope s_L_mixed) .none kV_L_mixed dc_L_mixed pm_L_mixed an_L_mixed cd_L_mixed ct_L_mixed), sl_L_mixed⟩)
    (c_L_mixed : PySem.W.codeIn K cd_L_mixed "_law_mixed" = true)
    (k_L_mixed : PySem.W.keepIn K (.ref a_L_mixed) = true)
    (n_L_purse : PySem.W.nsIn K mainGlobals "_law_purse" = some (some (.ref a_L_purse)))
    (l_L_purse : K.lookup a_L_purse = some ⟨oc_L_purse, od_L_purse, .func (PySem.W.fnOf "_law_purse" "_law_purse" (defArgs s_L_purse) (defBody s_L_purse) (defScope s_L_purse) .none kV_L_purse dc_L_purse pm_L_purse an_L_purse cd_L_purse ct_L_purse), sl_L_purse⟩)
    (c_L_purse : PySem.W.codeIn K cd_L_purse "_law_purse" = true)
    (k_L_purse : PySem.W.keepIn K (.ref a_L_purse) = true)
    (n_L_draw : PySem.W.nsIn K mainGlobals "_law_draw" = some (some (.ref a_L_draw)))
    (l_L_draw : K.lookup a_L_draw = some ⟨oc_L_draw, od_L_draw, .func (PySem.W.fnOf "_law_draw" "_law_draw" (defArgs s_L_draw) (defBody s_L_draw) (defScope s_L_draw) .none kV_L_draw dc_L_draw pm_L_draw an_L_draw cd_L_draw ct_L_draw), sl_L_draw⟩)
    (c_L_draw : PySem.W.codeIn K cd_L_draw "_law_draw" = true)
    (k_L_draw : PySem.W.keepIn K (.ref a_L_draw) = true)
    (n_L_place : PySem.W.nsIn K mainGlobals "_law_place" = some (some (.ref a_L_place)))
    (l_L_place : K.lookup a_L_place = some ⟨oc_L_place, od_L_place, .func (PySem.W.fnOf "_law_place" "_law_place" (defArgs s_L_place) (defBody s_L_place) (defScope s_L_place) .none kV_L_place dc_L_place pm_L_place an_L_place cd_L_place ct_L_place), sl_L_place⟩)
    (c_L_place : PySem.W.codeIn K cd_L_place "_law_place" = true)
    (k_L_place : PySem.W.keepIn K (.ref a_L_place) = true)
    (n_L_setup : PySem.W.nsIn K mainGlobals "_law_setup" = some (some (.ref a_L_setup)))
    (l_L_setup : K.lookup a_L_setup = some ⟨oc_L_setup, od_L_setup, .func (PySem.W.fnOf "_law_setup" "_law_setup" (defArgs s_L_setup) (defBody s_L_setup) (defScope s_L_setup) .none kV_L_setup dc_L_setup pm_L_setup an_L_setup cd_L_setup ct_L_setup), sl_L_setup⟩)
    (c_L_setup : PySem.W.codeIn K cd_L_setup "_law_setup" = true)
    (k_L_setup : PySem.W.keepIn K (.ref a_L_setup) = true)
    (n_L_setup_text : PySem.W.nsIn K mainGlobals "_law_setup_text" = some (some (.ref a_L_setup_text)))
    (l_L_setup_text : K.lookup a_L_setup_text = some ⟨oc_L_setup_text, od_L_setup_text, .func (PySem.W.fnOf "_law_setup_text" "_law_setup_text" (defArgs s_L_setup_text) (defBody s_L_setup_text) (defScope s_L_setup_text) .none kV_L_setup_text dc_L_setup_text pm_L_setup_text an_L_setup_text cd_L_setup_text ct_L_setup_text), sl_L_setup_text⟩)
    (c_L_setup_text : PySem.W.codeIn K cd_L_setup_text "_law_setup_text" = true)
    (k_L_setup_text : PySem.W.keepIn K (.ref a_L_setup_text) = true)
    (n_show_setup : PySem.W.nsIn K mainGlobals "show_setup" = some (some (.ref a_show_setup)))
    (l_show_setup : K.lookup a_show_setup = some ⟨oc_show_setup, od_show_setup, .func (PySem.W.fnOf "show_setup" "show_setup" (defArgs s_show_setup) (defBody s_show_setup) (defScope s_show_setup) .none kV_show_setup dc_show_setup pm_show_setup an_show_setup cd_show_setup ct_show_setup), sl_show_setup⟩)
    (c_show_setup : PySem.W.codeIn K cd_show_setup "show_setup" = true)
    (k_show_setup : PySem.W.keepIn K (.ref a_show_setup) = true)
    (n_must : PySem.W.nsIn K mainGlobals "must" = some (some (.ref a_must)))
    (l_must : K.lookup a_must = some ⟨oc_must, od_must, .func (PySem.W.fnOf "must" "must" (defArgs s_must) (defBody s_must) (defScope s_must) .none kV_must dc_must pm_must an_must cd_must ct_must), sl_must⟩)
    (c_must : PySem.W.codeIn K cd_must "must" = true)
    (k_must : PySem.W.keepIn K (.ref a_must) = true)
    (n_read_place : PySem.W.nsIn K mainGlobals "read_place" = some (some (.ref a_read_place)))
    (l_read_place : K.lookup a_read_place = some ⟨oc_read_place, od_read_place, .func (PySem.W.fnOf "read_place" "read_place" (defArgs s_read_place) (defBody s_read_place) (defScope s_read_place) .none kV_read_place dc_read_place pm_read_place an_read_place cd_read_place ct_read_place), sl_read_place⟩)
    (c_read_place : PySem.W.codeIn K cd_read_place "read_place" = true)
    (k_read_place : PySem.W.keepIn K (.ref a_read_place) = true)
    (n_read_sign : PySem.W.nsIn K mainGlobals "read_sign" = some (some (.ref a_read_sign)))
    (l_read_sign : K.lookup a_read_sign = some ⟨oc_read_sign, od_read_sign, .func (PySem.W.fnOf "read_sign" "read_sign" (defArgs s_read_sign) (defBody s_read_sign) (defScope s_read_sign) .none kV_read_sign dc_read_sign pm_read_sign an_read_sign cd_read_sign ct_read_sign), sl_read_sign⟩)
    (c_read_sign : PySem.W.codeIn K cd_read_sign "read_sign" = true)
    (k_read_sign : PySem.W.keepIn K (.ref a_read_sign) = true)
    (n_read_setup : PySem.W.nsIn K mainGlobals "read_setup" = some (some (.ref a_read_setup)))
    (l_read_setup : K.lookup a_read_setup = some ⟨oc_read_setup, od_read_setup, .func (PySem.W.fnOf "read_setup" "read_setup" (defArgs s_read_setup) (defBody s_read_setup) (defScope s_read_setup) .none kV_read_setup dc_read_setup pm_read_setup an_read_setup cd_read_setup ct_read_setup), sl_read_setup⟩)
    (c_read_setup : PySem.W.codeIn K cd_read_setup "read_setup" = true)
    (k_read_setup : PySem.W.keepIn K (.ref a_read_setup) = true)
    (n_L_same : PySem.W.nsIn K mainGlobals "_law_same" = some (some (.ref a_L_same)))
    (l_L_same : K.lookup a_L_same = some ⟨oc_L_same, od_L_same, .func (PySem.W.fnOf "_law_same" "_law_same" (defArgs s_L_same) (defBody s_L_same) (defScope s_L_same) .none kV_L_same dc_L_same pm_L_same an_L_same cd_L_same ct_L_same), sl_L_same⟩)
    (c_L_same : PySem.W.codeIn K cd_L_same "_law_same" = true)
    (k_L_same : PySem.W.keepIn K (.ref a_L_same) = true)
    (n_law : PySem.W.nsIn K mainGlobals "law" = some (some (.ref a_law)))
    (l_law : K.lookup a_law = some ⟨oc_law, od_law, .func (PySem.W.fnOf "law" "law" (defArgs s_law) (defBody s_law) (defScope s_law) .none kV_law dc_law pm_law an_law cd_law ct_law), sl_law⟩)
    (c_law : PySem.W.codeIn K cd_law "law" = true)
    (k_law : PySem.W.keepIn K (.ref a_law) = true)
    (n_ROWS : PySem.W.nsIn K mainGlobals "ROWS" = some (some (.str "ABCD" tk_ROWS)))
    (n_FIGURES : PySem.W.nsIn K mainGlobals "FIGURES" = some (some (.str "0123456789" tk_FIGURES)))
    (z_range : PySem.W.nsIn K mainGlobals "range" = some none)
    (z_len : PySem.W.nsIn K mainGlobals "len" = some none)
    (z_abs : PySem.W.nsIn K mainGlobals "abs" = some none)
    (z_str : PySem.W.nsIn K mainGlobals "str" = some none)
    (z_all : PySem.W.nsIn K mainGlobals "all" = some none)
    (z_int : PySem.W.nsIn K mainGlobals "int" = some none)
    (z_isinstance : PySem.W.nsIn K mainGlobals "isinstance" = some none)
    (z_tuple : PySem.W.nsIn K mainGlobals "tuple" = some none)
    (z_list : PySem.W.nsIn K mainGlobals "list" = some none)
    (z_bool : PySem.W.nsIn K mainGlobals "bool" = some none) : Tx K mg where
  a_L_mixed := a_L_mixed
  fd_L_mixed := PySem.W.fnOf "_law_mixed" "_law_mixed" (defArgs s_L_mixed) (defBody s_L_mixed) (defScope s_L_mixed) .none kV_L_mixed dc_L_mixed pm_L_mixed an_L_mixed cd_L_mixed ct_L_mixed
  F_L_mixed := fun_mk l_L_mixed c_L_mixed k_L_mixed
  b_L_mixed := (fun_mk (st := s_L_mixed) l_L_mixed c_L_mixed k_L_mixed).binds (ps := ["_law_cell", "_law_k"]) fun _ _ _ _ _ _ us hl => match us, hl with | [_, _], _ => rfl
  m_L_mixed := PySem.W.mg_of X G n_L_mixed
  a_L_purse := a_L_purse
  fd_L_purse := PySem.W.fnOf "_law_purse" "_law_purse" (defArgs s_L_purse) (defBody s_L_purse) (defScope s_L_purse) .none kV_L_purse dc_L_purse pm_L_purse an_L_purse cd_L_purse ct_L_purse
  F_L_purse := fun_mk l_L_purse c_L_purse k_L_purse
  b_L_purse := (fun_mk (st := s_L_purse) l_L_purse c_L_purse k_L_purse).binds (ps := ["_law_script"]) fun _ _ _ _ _ _ us hl => match us, hl with | [_], _ => rfl
  m_L_purse := PySem.W.mg_of X G n_L_purse
  a_L_draw := a_L_draw
  fd_L_draw := PySem.W.fnOf "_law_draw" "_law_draw" (defArgs s_L_draw) (defBody s_L_draw) (defScope s_L_draw) .none kV_L_draw dc_L_draw pm_L_draw an_L_draw cd_L_draw ct_L_draw
  F_L_draw := fun_mk l_L_draw c_L_draw k_L_draw
  b_L_draw := (fun_mk (st := s_L_draw) l_L_draw c_L_draw k_L_draw).binds (ps := ["_law_purse_here", "_law_out_of"]) fun _ _ _ _ _ _ us hl => match us, hl with | [_, _], _ => rfl
  m_L_draw := PySem.W.mg_of X G n_L_draw
  a_L_place := a_L_place
  fd_L_place := PySem.W.fnOf "_law_place" "_law_place" (defArgs s_L_place) (defBody s_L_place) (defScope s_L_place) .none kV_L_place dc_L_place pm_L_place an_L_place cd_L_place ct_L_place
  F_L_place := fun_mk l_L_place c_L_place k_L_place
  b_L_place := (fun_mk (st := s_L_place) l_L_place c_L_place k_L_place).binds (ps := ["_law_purse_here"]) fun _ _ _ _ _ _ us hl => match us, hl with | [_], _ => rfl
  m_L_place := PySem.W.mg_of X G n_L_place
  a_L_setup := a_L_setup
  fd_L_setup := PySem.W.fnOf "_law_setup" "_law_setup" (defArgs s_L_setup) (defBody s_L_setup) (defScope s_L_setup) .none kV_L_setup dc_L_setup pm_L_setup an_L_setup cd_L_setup ct_L_setup
  F_L_setup := fun_mk l_L_setup c_L_setup k_L_setup
  b_L_setup := (fun_mk (st := s_L_setup) l_L_setup c_L_setup k_L_setup).binds (ps := ["_law_purse_here"]) fun _ _ _ _ _ _ us hl => match us, hl with | [_], _ => rfl
  m_L_setup := PySem.W.mg_of X G n_L_setup
  a_L_setup_text := a_L_setup_text
  fd_L_setup_text := PySem.W.fnOf "_law_setup_text" "_law_setup_text" (defArgs s_L_setup_text) (defBody s_L_setup_text) (defScope s_L_setup_text) .none kV_L_setup_text dc_L_setup_text pm_L_setup_text an_L_setup_text cd_L_setup_text ct_L_setup_text
  F_L_setup_text := fun_mk l_L_setup_text c_L_setup_text k_L_setup_text
  b_L_setup_text := (fun_mk (st := s_L_setup_text) l_L_setup_text c_L_setup_text k_L_setup_text).binds (ps := ["_law_setup_here"]) fun _ _ _ _ _ _ us hl => match us, hl with | [_], _ => rfl
  m_L_setup_text := PySem.W.mg_of X G n_L_setup_text
  a_show_setup := a_show_setup
  fd_show_setup := PySem.W.fnOf "show_setup" "show_setup" (defArgs s_show_setup) (defBody s_show_setup) (defScope s_show_setup) .none kV_show_setup dc_show_setup pm_show_setup an_show_setup cd_show_setup ct_show_setup
  F_show_setup := fun_mk l_show_setup c_show_setup k_show_setup
  b_show_setup := (fun_mk (st := s_show_setup) l_show_setup c_show_setup k_show_setup).binds (ps := ["setup"]) fun _ _ _ _ _ _ us hl => match us, hl with | [_], _ => rfl
  m_show_setup := PySem.W.mg_of X G n_show_setup
  a_must := a_must
  fd_must := PySem.W.fnOf "must" "must" (defArgs s_must) (defBody s_must) (defScope s_must) .none kV_must dc_must pm_must an_must cd_must ct_must
  F_must := fun_mk l_must c_must k_must
  b_must := (fun_mk (st := s_must) l_must c_must k_must).binds (ps := ["good"]) fun _ _ _ _ _ _ us hl => match us, hl with | [_], _ => rfl
  m_must := PySem.W.mg_of X G n_must
  a_read_place := a_read_place
  fd_read_place := PySem.W.fnOf "read_place" "read_place" (defArgs s_read_place) (defBody s_read_place) (defScope s_read_place) .none kV_read_place dc_read_place pm_read_place an_read_place cd_read_place ct_read_place
  F_read_place := fun_mk l_read_place c_read_place k_read_place
  b_read_place := (fun_mk (st := s_read_place) l_read_place c_read_place k_read_place).binds (ps := ["text"]) fun _ _ _ _ _ _ us hl => match us, hl with | [_], _ => rfl
  m_read_place := PySem.W.mg_of X G n_read_place
  a_read_sign := a_read_sign
  fd_read_sign := PySem.W.fnOf "read_sign" "read_sign" (defArgs s_read_sign) (defBody s_read_sign) (defScope s_read_sign) .none kV_read_sign dc_read_sign pm_read_sign an_read_sign cd_read_sign ct_read_sign
  F_read_sign := fun_mk l_read_sign c_read_sign k_read_sign
  b_read_sign := (fun_mk (st := s_read_sign) l_read_sign c_read_sign k_read_sign).binds (ps := ["text"]) fun _ _ _ _ _ _ us hl => match us, hl with | [_], _ => rfl
  m_read_sign := PySem.W.mg_of X G n_read_sign
  a_read_setup := a_read_setup
  fd_read_setup := PySem.W.fnOf "read_setup" "read_setup" (defArgs s_read_setup) (defBody s_read_setup) (defScope s_read_setup) .none kV_read_setup dc_read_setup pm_read_setup an_read_setup cd_read_setup ct_read_setup
  F_read_setup := fun_mk l_read_setup c_read_setup k_read_setup
  b_read_setup := (fun_mk (st := s_read_setup) l_read_setup c_read_setup k_read_setup).binds (ps := ["text"]) fun _ _ _ _ _ _ us hl => match us, hl with | [_], _ => rfl
  m_read_setup := PySem.W.mg_of X G n_read_setup
  a_L_same := a_L_same
  fd_L_same := PySem.W.fnOf "_law_same" "_law_same" (defArgs s_L_same) (defBody s_L_same) (defScope s_L_same) .none kV_L_same dc_L_same pm_L_same an_L_same cd_L_same ct_L_same
  F_L_same := fun_mk l_L_same c_L_same k_L_same
  b_L_same := (fun_mk (st := s_L_same) l_L_same c_L_same k_L_same).binds (ps := ["_law_found", "_law_due"]) fun _ _ _ _ _ _ us hl => match us, hl with | [_, _], _ => rfl
  m_L_same := PySem.W.mg_of X G n_L_same
  a_law := a_law
  fd_law := PySem.W.fnOf "law" "law" (defArgs s_law) (defBody s_law) (defScope s_law) .none kV_law dc_law pm_law an_law cd_law ct_law
  F_law := fun_mk l_law c_law k_law
  b_law := (fun_mk (st := s_law) l_law c_law k_law).binds (ps := ["_law_script"]) fun _ _ _ _ _ _ us hl => match us, hl with | [_], _ => rfl
  m_law := PySem.W.mg_of X G n_law
  C_NoText := C_NoText
  m_NoText := PySem.W.mg_of X G n_NoText
  tk_ROWS := tk_ROWS
  m_ROWS := PySem.W.mg_of X G n_ROWS
  tk_FIGURES := tk_FIGURES
  m_FIGURES := PySem.W.mg_of X G n_FIGURES
  n_range := PySem.W.mg_none_of X G z_range
  n_len := PySem.W.mg_none_of X G z_len
  n_abs := PySem.W.mg_none_of X G z_abs
  n_str := PySem.W.mg_none_of X G z_str
  n_all := PySem.W.mg_none_of X G z_all
  n_int := PySem.W.mg_none_of X G z_int
  n_isinstance := PySem.W.mg_none_of X G z_isinstance
  n_tuple := PySem.W.mg_none_of X G z_tuple
  n_list := PySem.W.mg_none_of X G z_list
  n_bool := PySem.W.mg_none_of X G z_bool
theorem all_mk {l : PySem.W.OpenLaw} {w : World} {K : PySem.W.Frag} {h : Heap} {mg : Str → Option Value} {fa : Addr} (X : K.In h) (G : h.Ns mainGlobals mg) (hfa : mg "law" = some (.ref fa)) (t : Tx K mg)
    (hb : ∃ (kV dc pm : Value) (an : Option Addr) (cd ct : Value), t.fd_law = PySem.W.fnOf "law" "law" (defArgs s_law) (defBody s_law) (defScope s_law) .none kV dc pm an cd ct) :
    ∃ fd : FuncData, (∀ (s : Shared) (v : Value), BindsTo s fd ⟨[v], []⟩ [("_law_script", v)]) ∧ ∀ base : Heap, K.In base → base.Ns mainGlobals mg → FnOk l.prog w K mg base CX0 7 fa fd ["_law_script"] (sp_law K) := by
  have e := hfa.symm.trans t.m_law
  cases e
  refine ⟨t.fd_law, fun s v => ?_, fun base _ _ => ok_law t⟩
  obtain ⟨kV, dc, pm, an, cd, ct, e⟩ := hb
  rw [e]
  exact .of_eq rfl
theorem walk {l : PySem.W.OpenLaw} {q : Program} {loose : List Str} {XP : (Str → Option Value) → Heap → Prop} {YP : World → Heap → Prop} {d : DefRec} {K : Params → PySem.W.Frag} (hn : l.most = some 63) (hdf : d.params.defaults = [])
    (hY : ∀ (w : World) (h : Heap), YP w h → (K w.params).In h)
    (F : ∀ (w : World) (mg : Str → Option Value) (fa : Addr) (h : Heap), (K w.params).In h → h.Ns mainGlobals mg → mg d.name = some (.ref fa) →
      ∃ fd : FuncData, (∀ (s : Shared) (u : Value), BindsTo s fd ⟨[u], []⟩ [("_law_script", u)]) ∧ ∀ base : Heap, (K w.params).In base → base.Ns mainGlobals mg → FnOk l.prog w (K w.params) mg base CX0 7 fa fd ["_law_script"] (sp_law (K w.params))) :
    PySem.W.WalkO q loose XP YP l.row.toRowW d [] (fun f vs => PySem.call f vs) :=
  L2.walk_of (n := 63) (k := 7) (x := "_law_script") (CX := fun _ => CX0) (sp := fun w => sp_law (K w.params)) hn (by decide) hdf ⟨rfl, by decide, by decide⟩ hY F (fun _ _ a ns hl _ hS => ⟨a, ns, rfl, hS, hl, fun _ => rfl⟩) fun _ _ _ _ _ z => z
theorem all_go {l : PySem.W.OpenLaw} {w : World} {K : PySem.W.Frag} {h : Heap} {mg : Str → Option Value} {fa : Addr} {a_L_mixed a_L_purse a_L_draw a_L_place a_L_setup a_L_setup_text a_show_setup a_must a_read_place a_read_sign a_read_setup a_L_same a_law C_NoText : Addr} {od_L_mixed an_L_mixed od_L_purse an_L_purse od_L_draw an_L_draw od_L_place an_L_place od_L_setup an_L_setup od_L_setup_text an_L_setup_text od_show_setup an_show_setup od_must an_must od_read_place an_read_place od_read_sign an_read_sign od_read_setup an_read_setup od_L_same an_L_same od_law an_law : Option Addr} {sl_L_mixed sl_L_purse sl_L_draw sl_L_place sl_L_setup sl_L_setup_text sl_show_setup sl_must sl_read_place sl_read_sign sl_read_setup sl_L_same sl_law : Array (Option Value)} {oc_L_mixed kV_L_mixed dc_L_mixed pm_L_mixed cd_L_mixed ct_L_mixed oc_L_purse kV_L_purse dc_L_purse pm_L_purse cd_L_purse ct_L_purse oc_L_draw kV_L_draw dc_L_draw pm_L_draw cd_L_draw ct_L_draw oc_L_place kV_L_place dc_L_place pm_L_place cd_L_place ct_L_place oc_L_setup kV_L_setup dc_L_setup pm_L_setup cd_L_setup ct_L_setup oc_L_setup_text kV_L_setup_text dc_L_setup_text pm_L_setup_text cd_L_setup_text ct_L_setup_text oc_show_setup kV_show_setup dc_show_setup pm_show_setup cd_show_setup ct_show_setup oc_must kV_must dc_must pm_must cd_must ct_must oc_read_place kV_read_place dc_read_place pm_read_place cd_read_place ct_read_place oc_read_sign kV_read_sign dc_read_sign pm_read_sign cd_read_sign ct_read_sign oc_read_setup kV_read_setup dc_read_setup pm_read_setup cd_read_setup ct_read_setup oc_L_same kV_L_same dc_L_same pm_L_same cd_L_same ct_L_same oc_law kV_law dc_law pm_law cd_law ct_law : Value} {tk_ROWS tk_FIGURES : Tok} (X : K.In h) (G : h.Ns mainGlobals mg) (hfa : mg "law" = some (.ref fa))
    (n_NoText : PySem.W.nsIn K mainGlobals "NoText" = some (some (.ref C_NoText)))
    (n_L_mixed : PySem.W.nsIn K mainGlobals "_law_mixed" = some (some (.ref a_L_mixed)))
    (l_L_mixed : K.lookup a_L_mixed = some ⟨oc_L_mixed, od_L_mixed, .func (PySem.W.fnOf "_law_mixed" "_law_mixed" (defArgs s_L_mixed) (defBody s_L_mixed) (defScope s_L_mixed) .none kV_L_mixed dc_L_mixed pm_L_mixed an_L_mixed cd_L_mixed ct_L_mixed), sl_L_mixed⟩)
    (c_L_mixed : PySem.W.codeIn K cd_L_mixed "_law_mixed" = true)
    (k_L_mixed : PySem.W.keepIn K (.ref a_L_mixed) = true)
    (n_L_purse : PySem.W.nsIn K mainGlobals "_law_purse" = some (some (.ref a_L_purse)))
    (l_L_purse : K.lookup a_L_purse = some ⟨oc_L_purse, od_L_purse, .func (PySem.W.fnOf "_law_purse" "_law_purse" (defArgs s_L_purse) (defBody s_L_purse) (defScope s_L_purse) .none kV_L_purse dc_L_purse pm_L_purse an_L_purse cd_L_purse ct_L_purse), sl_L_purse⟩)
    (c_L_purse : PySem.W.codeIn K cd_L_purse "_law_purse" = true)
    (k_L_purse : PySem.W.keepIn K (.ref a_L_purse) = true)
    (n_L_draw : PySem.W.nsIn K mainGlobals "_law_draw" = some (some (.ref a_L_draw)))
    (l_L_draw : K.lookup a_L_draw = some ⟨oc_L_draw, od_L_draw, .func (PySem.W.fnOf "_law_draw" "_law_draw" (defArgs s_L_draw) (defBody s_L_draw) (defScope s_L_draw) .none kV_L_draw dc_L_draw pm_L_draw an_L_draw cd_L_draw ct_L_draw), sl_L_draw⟩)
    (c_L_draw : PySem.W.codeIn K cd_L_draw "_law_draw" = true)
    (k_L_draw : PySem.W.keepIn K (.ref a_L_draw) = true)
    (n_L_place : PySem.W.nsIn K mainGlobals "_law_place" = some (some (.ref a_L_place)))
    (l_L_place : K.lookup a_L_place = some ⟨oc_L_place, od_L_place, .func (PySem.W.fnOf "_law_place" "_law_place" (defArgs s_L_place) (defBody s_L_place) (defScope s_L_place) .none kV_L_place dc_L_place pm_L_place an_L_place cd_L_place ct_L_place), sl_L_place⟩)
    (c_L_place : PySem.W.codeIn K cd_L_place "_law_place" = true)
    (k_L_place : PySem.W.keepIn K (.ref a_L_place) = true)
    (n_L_setup : PySem.W.nsIn K mainGlobals "_law_setup" = some (some (.ref a_L_setup)))
    (l_L_setup : K.lookup a_L_setup = some ⟨oc_L_setup, od_L_setup, .func (PySem.W.fnOf "_law_setup" "_law_setup" (defArgs s_L_setup) (defBody s_L_setup) (defScope s_L_setup) .none kV_L_setup dc_L_setup pm_L_setup an_L_setup cd_L_setup ct_L_setup), sl_L_setup⟩)
    (c_L_setup : PySem.W.codeIn K cd_L_setup "_law_setup" = true)
    (k_L_setup : PySem.W.keepIn K (.ref a_L_setup) = true)
    (n_L_setup_text : PySem.W.nsIn K mainGlobals "_law_setup_text" = some (some (.ref a_L_setup_text)))
    (l_L_setup_text : K.lookup a_L_setup_text = some ⟨oc_L_setup_text, od_L_setup_text, .func (PySem.W.fnOf "_law_setup_text" "_law_setup_text" (defArgs s_L_setup_text) (defBody s_L_setup_text) (defScope s_L_setup_text) .none kV_L_setup_text dc_L_setup_text pm_L_setup_text an_L_setup_text cd_L_setup_text ct_L_setup_text), sl_L_setup_text⟩)
    (c_L_setup_text : PySem.W.codeIn K cd_L_setup_text "_law_setup_text" = true)
    (k_L_setup_text : PySem.W.keepIn K (.ref a_L_setup_text) = true)
    (n_show_setup : PySem.W.nsIn K mainGlobals "show_setup" = some (some (.ref a_show_setup)))
    (l_show_setup : K.lookup a_show_setup = some ⟨oc_show_setup, od_show_setup, .func (PySem.W.fnOf "show_setup" "show_setup" (defArgs s_show_setup) (defBody s_show_setup) (defScope s_show_setup) .none kV_show_setup dc_show_setup pm_show_setup an_show_setup cd_show_setup ct_show_setup), sl_show_setup⟩)
    (c_show_setup : PySem.W.codeIn K cd_show_setup "show_setup" = true)
    (k_show_setup : PySem.W.keepIn K (.ref a_show_setup) = true)
    (n_must : PySem.W.nsIn K mainGlobals "must" = some (some (.ref a_must)))
    (l_must : K.lookup a_must = some ⟨oc_must, od_must, .func (PySem.W.fnOf "must" "must" (defArgs s_must) (defBody s_must) (defScope s_must) .none kV_must dc_must pm_must an_must cd_must ct_must), sl_must⟩)
    (c_must : PySem.W.codeIn K cd_must "must" = true)
    (k_must : PySem.W.keepIn K (.ref a_must) = true)
    (n_read_place : PySem.W.nsIn K mainGlobals "read_place" = some (some (.ref a_read_place)))
    (l_read_place : K.lookup a_read_place = some ⟨oc_read_place, od_read_place, .func (PySem.W.fnOf "read_place" "read_place" (defArgs s_read_place) (defBody s_read_place) (defScope s_read_place) .none kV_read_place dc_read_place pm_read_place an_read_place cd_read_place ct_read_place), sl_read_place⟩)
    (c_read_place : PySem.W.codeIn K cd_read_place "read_place" = true)
    (k_read_place : PySem.W.keepIn K (.ref a_read_place) = true)
    (n_read_sign : PySem.W.nsIn K mainGlobals "read_sign" = some (some (.ref a_read_sign)))
    (l_read_sign : K.lookup a_read_sign = some ⟨oc_read_sign, od_read_sign, .func (PySem.W.fnOf "read_sign" "read_sign" (defArgs s_read_sign) (defBody s_read_sign) (defScope s_read_sign) .none kV_read_sign dc_read_sign pm_read_sign an_read_sign cd_read_sign ct_read_sign), sl_read_sign⟩)
    (c_read_sign : PySem.W.codeIn K cd_read_sign "read_sign" = true)
    (k_read_sign : PySem.W.keepIn K (.ref a_read_sign) = true)
    (n_read_setup : PySem.W.nsIn K mainGlobals "read_setup" = some (some (.ref a_read_setup)))
    (l_read_setup : K.lookup a_read_setup = some ⟨oc_read_setup, od_read_setup, .func (PySem.W.fnOf "read_setup" "read_setup" (defArgs s_read_setup) (defBody s_read_setup) (defScope s_read_setup) .none kV_read_setup dc_read_setup pm_read_setup an_read_setup cd_read_setup ct_read_setup), sl_read_setup⟩)
    (c_read_setup : PySem.W.codeIn K cd_read_setup "read_setup" = true)
    (k_read_setup : PySem.W.keepIn K (.ref a_read_setup) = true)
    (n_L_same : PySem.W.nsIn K mainGlobals "_law_same" = some (some (.ref a_L_same)))
    (l_L_same : K.lookup a_L_same = some ⟨oc_L_same, od_L_same, .func (PySem.W.fnOf "_law_same" "_law_same" (defArgs s_L_same) (defBody s_L_same) (defScope s_L_same) .none kV_L_same dc_L_same pm_L_same an_L_same cd_L_same ct_L_same), sl_L_same⟩)
    (c_L_same : PySem.W.codeIn K cd_L_same "_law_same" = true)
    (k_L_same : PySem.W.keepIn K (.ref a_L_same) = true)
    (n_law : PySem.W.nsIn K mainGlobals "law" = some (some (.ref a_law)))
    (l_law : K.lookup a_law = some ⟨oc_law, od_law, .func (PySem.W.fnOf "law" "law" (defArgs s_law) (defBody s_law) (defScope s_law) .none kV_law dc_law pm_law an_law cd_law ct_law), sl_law⟩)
    (c_law : PySem.W.codeIn K cd_law "law" = true)
    (k_law : PySem.W.keepIn K (.ref a_law) = true)
    (n_ROWS : PySem.W.nsIn K mainGlobals "ROWS" = some (some (.str "ABCD" tk_ROWS)))
    (n_FIGURES : PySem.W.nsIn K mainGlobals "FIGURES" = some (some (.str "0123456789" tk_FIGURES)))
    (z_range : PySem.W.nsIn K mainGlobals "range" = some none)
    (z_len : PySem.W.nsIn K mainGlobals "len" = some none)
    (z_abs : PySem.W.nsIn K mainGlobals "abs" = some none)
    (z_str : PySem.W.nsIn K mainGlobals "str" = some none)
    (z_all : PySem.W.nsIn K mainGlobals "all" = some none)
    (z_int : PySem.W.nsIn K mainGlobals "int" = some none)
    (z_isinstance : PySem.W.nsIn K mainGlobals "isinstance" = some none)
    (z_tuple : PySem.W.nsIn K mainGlobals "tuple" = some none)
    (z_list : PySem.W.nsIn K mainGlobals "list" = some none)
    (z_bool : PySem.W.nsIn K mainGlobals "bool" = some none) :
    ∃ fd : FuncData, (∀ (s : Shared) (v : Value), BindsTo s fd ⟨[v], []⟩ [("_law_script", v)]) ∧ ∀ base : Heap, K.In base → base.Ns mainGlobals mg → FnOk l.prog w K mg base CX0 7 fa fd ["_law_script"] (sp_law K) :=
  all_mk X G hfa (all_tx X G n_NoText n_L_mixed l_L_mixed c_L_mixed k_L_mixed n_L_purse l_L_purse c_L_purse k_L_purse n_L_draw l_L_draw c_L_draw k_L_draw n_L_place l_L_place c_L_place k_L_place n_L_setup l_L_setup c_L_setup k_L_setup n_L_setup_text l_L_setup_text c_L_setup_text k_L_setup_text n_show_setup l_show_setup c_show_setup k_show_setup n_must l_must c_must k_must n_read_place l_read_place c_read_place k_read_place n_read_sign l_read_sign c_read_sign k_read_sign n_read_setup l_read_setup c_read_setup k_read_setup n_L_same l_L_same c_L_same k_L_same n_law l_law c_law k_law n_ROWS n_FIGURES z_range z_len z_abs z_str z_all z_int z_isinstance z_tuple z_list z_bool) ⟨_, _, _, _, _, _, rfl⟩
end E
open PySem PySem.W PyProof.Rows
set_option maxRecDepth 100000 in
set_option maxHeartbeats 0 in
theorem PySem.Challenge.cw_endnever_k13_setups_shown_and_read_holds : PySem.Challenge.rw_endnever_k13_setups_shown_and_read.Holds := by
  w_on; o_law; k_head; (case hw => w_witness2)
  k_fill
  refine E.walk (l := PySem.Challenge.rw_endnever_k13_setups_shown_and_read) rfl rfl (fun w h Y => PySem.W.kIn_of Y) ?F
  case F =>
    intro w mg fa h KX G hmg
    refine' E.all_go KX G hmg ?n_NoText ?n_L_mixed ?l_L_mixed ?c_L_mixed ?k_L_mixed ?n_L_purse ?l_L_purse ?c_L_purse ?k_L_purse ?n_L_draw ?l_L_draw ?c_L_draw ?k_L_draw ?n_L_place ?l_L_place ?c_L_place ?k_L_place ?n_L_setup ?l_L_setup ?c_L_setup ?k_L_setup ?n_L_setup_text ?l_L_setup_text ?c_L_setup_text ?k_L_setup_text ?n_show_setup ?l_show_setup ?c_show_setup ?k_show_setup ?n_must ?l_must ?c_must ?k_must ?n_read_place ?l_read_place ?c_read_place ?k_read_place ?n_read_sign ?l_read_sign ?c_read_sign ?k_read_sign ?n_read_setup ?l_read_setup ?c_read_setup ?k_read_setup ?n_L_same ?l_L_same ?c_L_same ?k_L_same ?n_law ?l_law ?c_law ?k_law ?n_ROWS ?n_FIGURES ?z_range ?z_len ?z_abs ?z_str ?z_all ?z_int ?z_isinstance ?z_tuple ?z_list ?z_bool
    (case n_NoText => k_is); (case n_L_mixed => k_is); (case l_L_mixed => k_is); (case c_L_mixed => k_is); (case k_L_mixed => k_is); (case n_L_purse => k_is); (case l_L_purse => k_is); (case c_L_purse => k_is)
    (case k_L_purse => k_is); (case n_L_draw => k_is); (case l_L_draw => k_is); (case c_L_draw => k_is); (case k_L_draw => k_is); (case n_L_place => k_is); (case l_L_place => k_is); (case c_L_place => k_is)
    (case k_L_place => k_is); (case n_L_setup => k_is); (case l_L_setup => k_is); (case c_L_setup => k_is); (case k_L_setup => k_is); (case n_L_setup_text => k_is); (case l_L_setup_text => k_is); (case c_L_setup_text => k_is)
    (case k_L_setup_text => k_is); (case n_show_setup => k_is); (case l_show_setup => k_is); (case c_show_setup => k_is); (case k_show_setup => k_is); (case n_must => k_is); (case l_must => k_is); (case c_must => k_is)
    (case k_must => k_is); (case n_read_place => k_is); (case l_read_place => k_is); (case c_read_place => k_is); (case k_read_place => k_is); (case n_read_sign => k_is); (case l_read_sign => k_is); (case c_read_sign => k_is)
    (case k_read_sign => k_is); (case n_read_setup => k_is); (case l_read_setup => k_is); (case c_read_setup => k_is); (case k_read_setup => k_is); (case n_L_same => k_is); (case l_L_same => k_is); (case c_L_same => k_is)
    (case k_L_same => k_is); (case n_law => k_is); (case l_law => k_is); (case c_law => k_is); (case k_law => k_is); (case n_ROWS => k_is); (case n_FIGURES => k_is); (case z_range => k_is)
    (case z_len => k_is); (case z_abs => k_is); (case z_str => k_is); (case z_all => k_is); (case z_int => k_is); (case z_isinstance => k_is); (case z_tuple => k_is); (case z_list => k_is)
    (case z_bool => k_is)
#print axioms PySem.Challenge.cw_endnever_k13_setups_shown_and_read_holds
