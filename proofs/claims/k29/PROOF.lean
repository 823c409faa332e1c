import PyProof.Rows.All
import Wide.All
import OpenK.AllK
import Wide.FinOn
import HandS.ForMost
import HandS.SortRule
import HandS.IsInst
import HandS.TupAny
import HandS.TupMul
import HandS.Walk
import HandS.More
import HandS.ListItems
import HandS.Wide
import KE.KTupSum
import KE.KEqNest
import PyProof.NeKinds
import HandS.Deep
import HandS.TupSets
import HandS.Conv
import PyProof.SetRoads
import PySem.Challenge.RW_endnever_k29_whole_meetings_and_runs
set_option Elab.async false
set_option maxRecDepth 100000
set_option maxHeartbeats 4000000
namespace E
open PySem L2
/-! ### small words of our own -/
theorem inr_int {x : V} {ns : List Int} {i : Nat} (h : (ns.map V.int)[i]? = some x) : ∃ z, x = V.int z ∧ ns[i]? = some z := by
  rw [List.getElem?_map] at h
  cases e : ns[i]? with
  | none => rw [e] at h; cases h
  | some z => rw [e] at h; exact ⟨z, (Option.some.inj h).symm, rfl⟩
/-- F stands in H, whatever comes to it -/
theorem sm_new {F H : Hp} {p : Addr} {o : HO} (s : Same F H) (n : H p = Option.none) : Same F (upd H p o) := fun b u e => by
  rw [upd_ne (ne_of_none (s b u e) n)]
  exact s b u e
theorem sm_set {F H : Hp} {p : Addr} {o : HO} (s : Same F H) (n : F p = Option.none) : Same F (upd H p o) := fun b u e => by
  rw [upd_ne (ne_of_none e n)]
  exact s b u e
theorem sm_up {H : Hp} {p : Addr} {o : HO} (n : H p = none) : Same H (upd H p o) := sm_new (Same.refl H) n
theorem cut_63 {ns : List Int} (h : ns.length ≤ 63) : cutV (ns.map V.int) none (some 63) = ns.map V.int := by
  unfold cutV
  have e1 : HT.sIx (ns.map V.int).length 0 none = 0 := rfl
  have e2 : HT.sIx (ns.map V.int).length (ns.map V.int).length (some 63) = (ns.map V.int).length := by
    simp only [HT.sIx, List.length_map]
    rw [if_neg (by decide), show (63 : Int).toNat = 63 from rfl]
    omega
  rw [e1, e2, List.drop_zero, Nat.sub_zero, List.take_length]
theorem ifT {c : Bool} {A B : Prop} (h : c = true) (a : A) : if c = true then A else B := by
  rw [if_pos h]; exact a
theorem ifF {c : Bool} {A B : Prop} (h : c = false) (b : B) : if c = true then A else B := by
  rw [h, if_neg Bool.false_ne_true]; exact b
theorem one_le : 1 ≤ sizeLine := by decide
theorem two_le : 2 ≤ sizeLine := by decide
theorem three_le : 3 ≤ sizeLine := by decide
theorem five_le : 5 ≤ sizeLine := by decide
theorem nil_le : 0 ≤ sizeLine := by decide
theorem lt_size {n : Nat} (h : n ≤ 1000000) : n < sizeLine := Nat.lt_of_le_of_lt h (by decide)
theorem le_size {n : Nat} (h : n ≤ 1000000) : n ≤ sizeLine := Nat.le_of_lt (lt_size h)
theorem pi_listK {X : Cx} {K : PySem.W.Frag} {tg l : Expr} {tl : TE} (e : X.K = K) (h : PE X l tl) : PI X tg l (iList K tl) := by
  subst e; exact pi_list h
theorem pi_tupK {X : Cx} {K : PySem.W.Frag} {tg l : Expr} {tl : TE} (e : X.K = K) (h : PE X l tl) : PI X tg l (iTup K tl) := by
  subst e; exact pi_tup h
theorem crK {X : Cx} {K : PySem.W.Frag} {f : Value} {r : PySem.W.Frag → List V → Hp → VK → Prop} (e : X.K = K) (h : CallR X f (r X.K)) : CallR X f (r K) := by
  subst e; exact h
theorem orK {X : Cx} {K : PySem.W.Frag} {f : Value → Value → Sem Value} {r : PySem.W.Frag → R2} (e : X.K = K) (h : OpR X f (r X.K)) : OpR X f (r K) := by
  subst e; exact h
theorem ixK {X : Cx} {K : PySem.W.Frag} {r : PySem.W.Frag → R2} (e : X.K = K) (h : IxR X (r X.K)) : IxR X (r K) := by
  subst e; exact h
theorem slK {X : Cx} {K : PySem.W.Frag} {r : PySem.W.Frag → V → Option Int → Option Int → Hp → VK → Prop} (e : X.K = K) (h : SlR X (r X.K)) : SlR X (r K) := by
  subst e; exact h
def rLenQ (K : PySem.W.Frag) : List V → Hp → VK → Prop := fun xs H Q => ∃ p ys, xs = [.ref p] ∧ (SqL K H p ys ∨ SqT K H p ys) ∧ Q (.int ys.length) H
def rListQ (K : PySem.W.Frag) : List V → Hp → VK → Prop := fun xs H Q => ∃ p ys, xs = [.ref p] ∧ (SqL K H p ys ∨ SqT K H p ys) ∧ ∀ l, H l = none → Q (.ref l) (upd H l (.lst ys))
def rTupQ (K : PySem.W.Frag) : List V → Hp → VK → Prop := fun xs H Q => ∃ p ys, xs = [.ref p] ∧ ((SqL K H p ys ∧ ∀ l, H l = none → Q (.ref l) (upd H l (.tup ys))) ∨ (SqT K H p ys ∧ Q (.ref p) H))
theorem ne_of_none' {F H : Hp} {q : Addr} (s : Same F H) (n : H q = none) : F q = none := s.free n
/-- a comprehension without a test: its item comes in -/
theorem yes {σ : St} {H : Hp} {A : Hp → Prop} {B : Hp → Prop} (a : A H) : tYes σ H (fun b H3 => if b = true then A H3 else B H3) := by
  show if true = true then A H else B H
  rw [if_pos rfl]; exact a
theorem call_lenQ {X : Cx} : CallR X (.builtin "len") (rLenQ X.K) := call_len_seq
theorem call_listQ {X : Cx} : CallR X (.type "list") (rListQ X.K) := call_list_of
theorem call_tupQ {X : Cx} : CallR X (.type "tuple") (rTupQ X.K) := call_tuple_of
@[irreducible] def rDictP (K : PySem.W.Frag) : List V → Hp → VK → Prop := fun xs H Q => ∃ (a : Addr) (ps : List Addr) (kvs : List (Key × V)), xs = [.ref a] ∧ SqL K H a (ps.map V.ref) ∧ Paired (fun p kv => SqT K H p [kV kv.1, kv.2]) ps kvs ∧ ∀ p, H p = none → Q (.ref p) (upd H p (.dK (mergeK [] kvs)))
theorem call_dictQ {X : Cx} (hc : X.calm = true) : CallR X (.type "dict") (rDictP X.K) := by
  unfold rDictP
  exact call_dictP hc
@[irreducible] def rSortQ (K : PySem.W.Frag) : List V → Hp → VK → Prop := rSortedPO K
theorem call_sortQ {X : Cx} : CallR X (.builtin "sorted") (rSortQ X.K) := by
  unfold rSortQ
  exact cr_sortedPO
theorem pg_tupK {X : Cx} {K : PySem.W.Frag} {es : List Expr} {k n : Nat} {t : TGs} {pos : Pos} (e : X.K = K) (hc : X.calm = true) (h : PGs X es t) (hn : (assignEach es X.env).length = n := by rfl) (hst : (assignEach es X.env).findIdx? (·.1) = none := by rfl) : PG X (.Tuple es k pos) (gTup K n t) := by
  subst e; exact pg_tup hc h hn hst
theorem pe_fldK {X : Cx} {K : PySem.W.Frag} {e : Expr} {f : Str} {pos : Pos} {ta : TE} (ek : X.K = K) (he : PE X e ta) (hb : attributeBase e f X.env (eval e X.env) = eval e X.env) : PE X (.Attribute e f pos) (tFld K ta f) := by
  subst ek; exact pe_fld he hb
/-! ### what stands, what is new: F the frozen part (nobody changes it), H the heap; from F, H to F', H' with changes at mu alone -/
structure Gr (mu : Addr → Prop) (F H F' H' : Hp) : Prop where
  ff : Same F F'
  fh : Same F' H'
  nw : ∀ c o, F' c = some o → F c = some o ∨ H c = none
  fr : ∀ c o, H c = some o → ¬ mu c → H' c = some o
  th : ∀ c, H' c = none → H c = none
/-- nothing but new things -/
abbrev mu0 : Addr → Prop := fun _ => False
/-- the purse alone -/
abbrev muP (p : Addr) : Addr → Prop := fun c => c = p
section
variable {mu : Addr → Prop} {F H F1 H1 F2 H2 : Hp} {q : Addr} {o u : HO}
theorem Gr.refl (s : Same F H) : Gr mu F H F H := ⟨fun _ _ h => h, s, fun _ _ h => .inl h, fun _ _ h _ => h, fun _ h => h⟩
theorem Gr.trans (a : Gr mu F H F1 H1) (b : Gr mu F1 H1 F2 H2) : Gr mu F H F2 H2 where
  ff := fun c o h => b.ff c o (a.ff c o h)
  fh := b.fh
  nw := fun c o h => by
    rcases b.nw c o h with h | h
    · exact a.nw c o h
    · exact .inr (a.th c h)
  fr := fun c o h m => b.fr c o (a.fr c o h m) m
  th := fun c h => a.th c (b.th c h)
/-- a part that changes what is ours, or what mu has -/
theorem Gr.thn {mu' : Addr → Prop} (a : Gr mu F H F1 H1) (b : Gr mu' F1 H1 F2 H2) (k : ∀ c, mu' c → mu c ∨ H c = none) : Gr mu F H F2 H2 where
  ff := fun c o h => b.ff c o (a.ff c o h)
  fh := b.fh
  nw := fun c o h => by
    rcases b.nw c o h with h | h
    · exact a.nw c o h
    · exact .inr (a.th c h)
  fr := fun c o h m => b.fr c o (a.fr c o h m) fun z => (k c z).elim m fun n => by rw [n] at h; cases h
  th := fun c h => a.th c (b.th c h)
theorem Gr.weak {mu' : Addr → Prop} (a : Gr mu F H F1 H1) (m : ∀ c, mu c → mu' c) : Gr mu' F H F1 H1 :=
  ⟨a.ff, a.fh, a.nw, fun c o h n => a.fr c o h fun z => n (m c z), a.th⟩
theorem Gr.of0 (a : Gr mu0 F H F1 H1) : Gr mu F H F1 H1 := a.weak fun _ z => z.elim
/-- a new thing that nobody will change -/
theorem Gr.new (a : Gr mu F H F1 H1) (n : H1 q = none) : Gr mu F H (upd F1 q o) (upd H1 q o) where
  ff := fun c o h => by
    rw [upd_ne (ne_of_none (a.fh c o (a.ff c o h)) n)]
    exact a.ff c o h
  fh := fun c u h => by
    by_cases e : c = q
    · subst e; rw [upd_same] at h ⊢; exact h
    · rw [upd_ne e] at h ⊢; exact a.fh c u h
  nw := fun c u h => by
    by_cases e : c = q
    · subst e; exact .inr (a.th _ n)
    · rw [upd_ne e] at h; exact a.nw c u h
  fr := fun c u h m => by
    rw [upd_ne (ne_of_none (a.fr c u h m) n)]
    exact a.fr c u h m
  th := fun c h => by
    by_cases e : c = q
    · subst e; rw [upd_same] at h; cases h
    · rw [upd_ne e] at h; exact a.th c h
/-- a new thing that may be changed yet -/
theorem Gr.own (a : Gr mu F H F1 H1) (n : H1 q = none) : Gr mu F H F1 (upd H1 q o) where
  ff := a.ff
  fh := fun c u h => by
    rw [upd_ne (ne_of_none (a.fh c u h) n)]
    exact a.fh c u h
  nw := a.nw
  fr := fun c u h m => by
    rw [upd_ne (ne_of_none (a.fr c u h m) n)]
    exact a.fr c u h m
  th := fun c h => by
    by_cases e : c = q
    · subst e; rw [upd_same] at h; cases h
    · rw [upd_ne e] at h; exact a.th c h
/-- a change of what is ours, and not frozen -/
theorem Gr.set (a : Gr mu F H F1 H1) (f : F1 q = none) (m : H q = none ∨ mu q) : Gr mu F H F1 (upd H1 q o) where
  ff := a.ff
  fh := fun c u h => by
    rw [upd_ne (ne_of_none h f)]
    exact a.fh c u h
  nw := a.nw
  fr := fun c u h k => by
    have e : c ≠ q := by
      rintro rfl
      rcases m with m | m
      · rw [m] at h; cases h
      · exact k m
    rw [upd_ne e]
    exact a.fr c u h k
  th := fun c h => by
    by_cases e : c = q
    · subst e; rw [upd_same] at h; cases h
    · rw [upd_ne e] at h; exact a.th c h
/-- what was ours is changed no more -/
theorem Gr.frz (a : Gr mu F H F1 H1) (h : H1 q = some o) (n : H q = none) (f : F1 q = none) : Gr mu F H (upd F1 q o) H1 where
  ff := fun c u e => by
    rw [upd_ne (ne_of_none (a.ff c u e) f)]
    exact a.ff c u e
  fh := fun c u e => by
    by_cases k : c = q
    · subst k; rw [upd_same] at e; cases e; exact h
    · rw [upd_ne k] at e; exact a.fh c u e
  nw := fun c u e => by
    by_cases k : c = q
    · subst k; exact .inr n
    · rw [upd_ne k] at e; exact a.nw c u e
  fr := a.fr
  th := a.th
theorem Gr.free (a : Gr mu F H F1 H1) (n : H1 q = none) : F1 q = none := a.fh.free n
end
/-- an owned thing: new since H, not frozen, it is o now -/
structure Ow (H F H1 : Hp) (q : Addr) (o : HO) : Prop where
  n : H q = none
  f : F q = none
  h : H1 q = some o
section
variable {mu mu' : Addr → Prop} {H0 F H F1 H1 : Hp} {q r : Addr} {o u : HO}
theorem Ow.call (w : Ow H0 F H q o) (a : Gr mu F H F1 H1) (m : ¬ mu q) : Ow H0 F1 H1 q o :=
  ⟨w.n, (by
    cases e : F1 q with
    | none => rfl
    | some z =>
      rcases a.nw q z e with k | k
      · rw [w.f] at k; cases k
      · rw [w.h] at k; cases k), a.fr q o w.h m⟩
theorem Ow.ne (w : Ow H0 F H q o) (n : H r = none) : q ≠ r := ne_of_none w.h n
theorem Ow.new (w : Ow H0 F H q o) (n : H r = none) : Ow H0 (upd F r u) (upd H r u) q o :=
  ⟨w.n, by rw [upd_ne (w.ne n)]; exact w.f, by rw [upd_ne (w.ne n)]; exact w.h⟩
theorem Ow.own (w : Ow H0 F H q o) (n : H r = none) : Ow H0 F (upd H r u) q o :=
  ⟨w.n, w.f, by rw [upd_ne (w.ne n)]; exact w.h⟩
theorem Ow.mk1 (a : Gr mu H0' H0 F H) (n : H q = none) : Ow H0 F (upd H q o) q o := ⟨a.th q n, a.free n, upd_same⟩
theorem Ow.set (w : Ow H0 F H q o) : Ow H0 F (upd H q u) q u := ⟨w.n, w.f, upd_same⟩
theorem Ow.other (w : Ow H0 F H q o) (e : q ≠ r) : Ow H0 F (upd H r u) q o := ⟨w.n, w.f, by rw [upd_ne e]; exact w.h⟩
end
/-! ### what stands for a datum -/
def All2 {α β : Type} (r : α → β → Prop) (xs : List α) (ys : List β) : Prop := xs.length = ys.length ∧ ∀ (i : Nat) (x : α) (y : β), xs[i]? = some x → ys[i]? = some y → r x y
section
variable {α β : Type} {r s : α → β → Prop} {xs xs' : List α} {ys ys' : List β}
theorem All2.nil : All2 r [] [] := ⟨rfl, fun i x y h => by simp at h⟩
theorem All2.get (a : All2 r xs ys) {i : Nat} {y : β} (h : ys[i]? = some y) : ∃ x, xs[i]? = some x ∧ r x y := by
  have l := (List.getElem?_eq_some_iff.mp h).1
  have l' : i < xs.length := by rw [a.1]; exact l
  exact ⟨xs[i], List.getElem?_eq_getElem l', a.2 i _ y (List.getElem?_eq_getElem l') h⟩
theorem All2.get' (a : All2 r xs ys) {i : Nat} {x : α} (h : xs[i]? = some x) : ∃ y, ys[i]? = some y ∧ r x y := by
  have l := (List.getElem?_eq_some_iff.mp h).1
  have l' : i < ys.length := by rw [← a.1]; exact l
  exact ⟨ys[i], List.getElem?_eq_getElem l', a.2 i x _ h (List.getElem?_eq_getElem l')⟩
theorem All2.imp (a : All2 r xs ys) (f : ∀ x y, r x y → s x y) : All2 s xs ys := ⟨a.1, fun i x y h k => f x y (a.2 i x y h k)⟩
theorem All2.app (a : All2 r xs ys) (b : All2 r xs' ys') : All2 r (xs ++ xs') (ys ++ ys') := by
  refine ⟨by rw [List.length_append, List.length_append, a.1, b.1], fun i x y h k => ?_⟩
  by_cases l : i < xs.length
  · rw [List.getElem?_append_left l] at h
    rw [List.getElem?_append_left (by rw [← a.1]; exact l)] at k
    exact a.2 i x y h k
  · rw [List.getElem?_append_right (by omega)] at h
    rw [List.getElem?_append_right (by rw [← a.1]; omega), ← a.1] at k
    exact b.2 _ x y h k
theorem All2.one {x : α} {y : β} (h : r x y) : All2 r [x] [y] := ⟨rfl, fun i a b p q => by
  cases i with
  | zero => simp at p q; subst p; subst q; exact h
  | succ n => simp at p⟩
theorem All2.cons {x : α} {y : β} (h : r x y) (a : All2 r xs ys) : All2 r (x :: xs) (y :: ys) := (All2.one h).app a
theorem All2.set (a : All2 r xs ys) {x : α} {y : β} (h : r x y) (j : Nat) : All2 r (xs.set j x) (ys.set j y) := by
  refine ⟨by rw [List.length_set, List.length_set]; exact a.1, fun i u v p q => ?_⟩
  by_cases e : j = i
  · subst e
    rw [List.getElem?_set_self'] at p q
    cases e1 : xs[j]? with
    | none => rw [e1] at p; cases p
    | some z =>
      cases e2 : ys[j]? with
      | none => rw [e2] at q; cases q
      | some z2 =>
        rw [e1] at p; rw [e2] at q
        cases p; cases q
        exact h
  · rw [List.getElem?_set_ne e] at p q
    exact a.2 i u v p q
theorem All2.take (a : All2 r xs ys) (n : Nat) : All2 r (xs.take n) (ys.take n) := by
  refine ⟨by rw [List.length_take, List.length_take, a.1], fun i u v p q => ?_⟩
  rw [List.getElem?_take] at p q
  split at p
  · rw [if_pos (by assumption)] at q; exact a.2 i u v p q
  · cases p
theorem All2.drop (a : All2 r xs ys) (n : Nat) : All2 r (xs.drop n) (ys.drop n) := by
  refine ⟨by rw [List.length_drop, List.length_drop, a.1], fun i u v p q => ?_⟩
  rw [List.getElem?_drop] at p q
  exact a.2 _ u v p q
end
class Dat (α : Type) where
  rep : Hp → V → α → Prop
  mono : ∀ {H H' : Hp} {v : V} {d : α}, Same H H' → rep H v d → rep H' v d
  py : α → PyData
  dp : ∀ {K : PySem.W.Frag} {H : Hp} {v : V} {d : α}, rep H v d → Dp K H v (py d)
  can : ∀ d, (py d).canLay0 = true
  dep : Nat
  depth : ∀ d, (py d).depth ≤ dep
  eqv : ∀ a b, PyData.eqv (py a) (py b) = true ↔ a = b
section
variable {α β γ : Type}
/-- v stands for d in H -/
abbrev Is [Dat α] (H : Hp) (v : V) (d : α) : Prop := Dat.rep H v d
theorem Is.up [Dat α] {H H' : Hp} {v : V} {d : α} (h : Is H v d) (s : Same H H') : Is H' v d := Dat.mono s h
abbrev IsAll [Dat α] (H : Hp) (xs : List V) (ds : List α) : Prop := All2 (fun v d => Is H v d) xs ds
theorem IsAll.up [Dat α] {H H' : Hp} {xs : List V} {ds : List α} (h : IsAll H xs ds) (s : Same H H') : IsAll H' xs ds := h.imp fun _ _ z => Is.up z s
theorem dp_all [Dat α] {K : PySem.W.Frag} {H : Hp} : ∀ {xs : List V} {ds : List α}, IsAll H xs ds → DpAll K H xs (ds.map Dat.py)
  | [], [], _ => .nil
  | [], d :: ds, h => by have := h.1; simp at this
  | x :: xs, [], h => by have := h.1; simp at this
  | x :: xs, d :: ds, h => .cons (Dat.dp (h.2 0 x d rfl rfl)) (dp_all ⟨by have := h.1; simpa using this, fun i a b p q => h.2 (i + 1) a b (by simpa using p) (by simpa using q)⟩)
theorem can_all [Dat α] : ∀ ds : List α, PyData.canLayAll0 (ds.map Dat.py) = true
  | [] => rfl
  | d :: ds => by
    show (PyData.canLay0 (Dat.py d) && PyData.canLayAll0 (ds.map Dat.py)) = true
    rw [Dat.can, can_all ds]; rfl
theorem depth_all [Dat α] : ∀ ds : List α, PyData.depthAll (ds.map Dat.py) ≤ Dat.dep α
  | [] => Nat.zero_le _
  | d :: ds => by
    show max (PyData.depth (Dat.py d)) (PyData.depthAll (ds.map Dat.py)) ≤ _
    exact Nat.max_le.mpr ⟨Dat.depth d, depth_all ds⟩
theorem eqv_all [Dat α] : ∀ a b : List α, PyData.eqvAll (a.map Dat.py) (b.map Dat.py) = true ↔ a = b
  | [], [] => by simp [PyData.eqvAll]
  | [], _ :: _ => by simp [PyData.eqvAll]
  | _ :: _, [] => by simp [PyData.eqvAll]
  | x :: xs, y :: ys => by
    rw [List.map_cons, List.map_cons, PyData.eqvAll, Bool.and_eq_true, Dat.eqv, eqv_all xs ys, List.cons.injEq]
instance : Dat Int where
  rep := fun _ v i => v = .int i
  mono := fun _ h => h
  py := .int
  dp := fun h => h ▸ .int _
  can := fun _ => rfl
  dep := 0
  depth := fun _ => Nat.le_refl _
  eqv := fun a b => by simp [PyData.eqv]
instance : Dat Bool where
  rep := fun _ v i => v = .bl i
  mono := fun _ h => h
  py := .bool
  dp := fun h => h ▸ .bl _
  can := fun _ => rfl
  dep := 0
  depth := fun _ => Nat.le_refl _
  eqv := fun a b => by simp [PyData.eqv]
/-- a list of data -/
instance [Dat α] : Dat (List α) where
  rep := fun H v l => ∃ a xs, v = .ref a ∧ H a = some (.lst xs) ∧ IsAll H xs l
  mono := fun s h => by
    obtain ⟨a, xs, e, h, i⟩ := h
    exact ⟨a, xs, e, s _ _ h, IsAll.up i s⟩
  py := fun l => .list (l.map Dat.py)
  dp := fun h => by
    obtain ⟨a, xs, rfl, h, i⟩ := h
    exact .lst (SqL.of h) (dp_all i)
  can := fun d => can_all d
  dep := Dat.dep α + 1
  depth := fun d => Nat.succ_le_succ (depth_all d)
  eqv := fun a b => by rw [PyData.eqv]; exact eqv_all a b
/-- a tuple of data of one kind -/
structure Tup (α : Type) where
  l : List α
  deriving DecidableEq
instance [Dat α] : Dat (Tup α) where
  rep := fun H v l => ∃ a xs, v = .ref a ∧ H a = some (.tup xs) ∧ IsAll H xs l.l
  mono := fun s h => by
    obtain ⟨a, xs, e, h, i⟩ := h
    exact ⟨a, xs, e, s _ _ h, IsAll.up i s⟩
  py := fun l => .tuple (l.l.map Dat.py)
  dp := fun h => by
    obtain ⟨a, xs, rfl, h, i⟩ := h
    exact .tup (SqT.of h) (dp_all i)
  can := fun d => can_all d.l
  dep := Dat.dep α + 1
  depth := fun d => Nat.succ_le_succ (depth_all d.l)
  eqv := fun a b => by
    rw [PyData.eqv, eqv_all]
    obtain ⟨a⟩ := a; obtain ⟨b⟩ := b
    simp
/-- a pair; a triple -/
structure T2 (α β : Type) where
  a : α
  b : β
  deriving DecidableEq
structure T3 (α β γ : Type) where
  a : α
  b : β
  c : γ
  deriving DecidableEq
instance [Dat α] [Dat β] : Dat (T2 α β) where
  rep := fun H v d => ∃ p x y, v = .ref p ∧ H p = some (.tup [x, y]) ∧ Is H x d.a ∧ Is H y d.b
  mono := fun s h => by
    obtain ⟨p, x, y, e, h, i, j⟩ := h
    exact ⟨p, x, y, e, s _ _ h, Is.up i s, Is.up j s⟩
  py := fun d => .tuple [Dat.py d.a, Dat.py d.b]
  dp := fun h => by
    obtain ⟨p, x, y, rfl, h, i, j⟩ := h
    exact .tup (SqT.of h) (.cons (Dat.dp i) (.cons (Dat.dp j) .nil))
  can := fun d => by
    show (PyData.canLay0 (Dat.py d.a) && (PyData.canLay0 (Dat.py d.b) && true)) = true
    rw [Dat.can, Dat.can]; rfl
  dep := max (Dat.dep α) (Dat.dep β) + 1
  depth := fun d => by
    have h1 := Dat.depth d.a
    have h2 := Dat.depth d.b
    show max (PyData.depth (Dat.py d.a)) (max (PyData.depth (Dat.py d.b)) 0) + 1 ≤ _
    omega
  eqv := fun a b => by
    obtain ⟨a, a'⟩ := a; obtain ⟨b, b'⟩ := b
    simp [PyData.eqv, PyData.eqvAll, Dat.eqv]
instance [Dat α] [Dat β] [Dat γ] : Dat (T3 α β γ) where
  rep := fun H v d => ∃ p x y z, v = .ref p ∧ H p = some (.tup [x, y, z]) ∧ Is H x d.a ∧ Is H y d.b ∧ Is H z d.c
  mono := fun s h => by
    obtain ⟨p, x, y, z, e, h, i, j, k⟩ := h
    exact ⟨p, x, y, z, e, s _ _ h, Is.up i s, Is.up j s, Is.up k s⟩
  py := fun d => .tuple [Dat.py d.a, Dat.py d.b, Dat.py d.c]
  dp := fun h => by
    obtain ⟨p, x, y, z, rfl, h, i, j, k⟩ := h
    exact .tup (SqT.of h) (.cons (Dat.dp i) (.cons (Dat.dp j) (.cons (Dat.dp k) .nil)))
  can := fun d => by
    show (PyData.canLay0 (Dat.py d.a) && (PyData.canLay0 (Dat.py d.b) && (PyData.canLay0 (Dat.py d.c) && true))) = true
    rw [Dat.can, Dat.can, Dat.can]; rfl
  dep := max (Dat.dep α) (max (Dat.dep β) (Dat.dep γ)) + 1
  depth := fun d => by
    have h1 := Dat.depth d.a
    have h2 := Dat.depth d.b
    have h3 := Dat.depth d.c
    show max (PyData.depth (Dat.py d.a)) (max (PyData.depth (Dat.py d.b)) (max (PyData.depth (Dat.py d.c)) 0)) + 1 ≤ _
    omega
  eqv := fun a b => by
    obtain ⟨a, a', a''⟩ := a; obtain ⟨b, b', b''⟩ := b
    simp [PyData.eqv, PyData.eqvAll, Dat.eqv]
/-- None, or a datum that is a tuple or a list -/
class Big (α : Type) [Dat α] : Prop where
  big : ∀ d : α, (∃ l, Dat.py d = .tuple l) ∨ ∃ l, Dat.py d = .list l
instance [Dat α] : Big (List α) := ⟨fun d => .inr ⟨_, rfl⟩⟩
instance [Dat α] : Big (Tup α) := ⟨fun d => .inl ⟨_, rfl⟩⟩
instance [Dat α] [Dat β] : Big (T2 α β) := ⟨fun d => .inl ⟨_, rfl⟩⟩
instance [Dat α] [Dat β] [Dat γ] : Big (T3 α β γ) := ⟨fun d => .inl ⟨_, rfl⟩⟩
instance [Dat α] [Big α] : Dat (Option α) where
  rep := fun H v d => match d with
    | none => v = .non
    | some d => Is H v d
  mono := fun {H H' v d} s h => by
    cases d with
    | none => exact h
    | some d => exact Is.up (show Is H v d from h) s
  py := fun d => match d with
    | none => .none
    | some d => Dat.py d
  dp := fun {K H v d} h => by
    cases d with
    | none => cases h; exact .non
    | some d => exact Dat.dp (show Is H v d from h)
  can := fun d => by
    cases d with
    | none => rfl
    | some d => exact Dat.can d
  dep := Dat.dep α
  depth := fun d => by
    cases d with
    | none => exact Nat.zero_le _
    | some d => exact Dat.depth d
  eqv := fun a b => by
    cases a with
    | none =>
      cases b with
      | none => exact ⟨fun _ => rfl, fun _ => rfl⟩
      | some b =>
        refine ⟨fun h => ?_, fun h => nomatch h⟩
        have h : PyData.eqv .none (Dat.py b) = true := h
        rcases Big.big b with ⟨l, e⟩ | ⟨l, e⟩ <;> (rw [e] at h; simp only [PyData.eqv] at h; cases h)
    | some a =>
      cases b with
      | none =>
        refine ⟨fun h => ?_, fun h => nomatch h⟩
        have h : PyData.eqv (Dat.py a) .none = true := h
        rcases Big.big a with ⟨l, e⟩ | ⟨l, e⟩ <;> (rw [e] at h; simp only [PyData.eqv] at h; cases h)
      | some b =>
        show PyData.eqv (Dat.py a) (Dat.py b) = true ↔ _
        rw [Dat.eqv, Option.some.injEq]
end
/-- == and != of data -/
theorem eq_dat0 {α : Type} [Dat α] [DecidableEq α] {a b : α} (hd : Dat.dep α ≤ 64) : SeqAt.shaped (Dat.py a) = true ∧ SeqAt.shaped (Dat.py b) = true ∧ PyData.eqv (Dat.py a) (Dat.py b) = decide (a = b) := by
  refine ⟨?_, ?_, ?_⟩
  · show (PyData.canLay0 _ && decide _) = true
    rw [Dat.can, decide_eq_true (Nat.le_trans (Dat.depth a) hd)]; rfl
  · show (PyData.canLay0 _ && decide _) = true
    rw [Dat.can, decide_eq_true (Nat.le_trans (Dat.depth b) hd)]; rfl
  · rw [Bool.eq_iff_iff, Dat.eqv, decide_eq_true_iff]
theorem eq_dat {α : Type} [Dat α] [DecidableEq α] {K : PySem.W.Frag} {H : Hp} {x y : V} {a b : α} {Q : VK} (ha : Is H x a) (hb : Is H y b) (q : Q (.bl (decide (a = b))) H) (hd : Dat.dep α ≤ 64 := by decide) : rEqD K x y H Q := by
  obtain ⟨h1, h2, h3⟩ := eq_dat0 (a := a) (b := b) hd
  exact ⟨Dat.py a, Dat.py b, Dat.dp ha, Dat.dp hb, h1, h2, by rw [h3]; exact q⟩
theorem ne_dat {α : Type} [Dat α] [DecidableEq α] {K : PySem.W.Frag} {H : Hp} {x y : V} {a b : α} {Q : VK} (ha : Is H x a) (hb : Is H y b) (q : Q (.bl (!decide (a = b))) H) (hd : Dat.dep α ≤ 64 := by decide) : rNeD K x y H Q := by
  obtain ⟨h1, h2, h3⟩ := eq_dat0 (a := a) (b := b) hd
  exact ⟨Dat.py a, Dat.py b, Dat.dp ha, Dat.dp hb, h1, h2, by rw [h3]; exact q⟩
/-! ### machines -/
/-- an entry -/
inductive Ent where
  | emp
  | go (put way row : Int)
  deriving DecidableEq
def entO : Ent → HO
  | .emp => .tup []
  | .go p w r => .tup [.int p, .int w, .int r]
def entP : Ent → PyData
  | .emp => .tuple []
  | .go p w r => .tuple [.int p, .int w, .int r]
instance : Dat Ent where
  rep := fun H v e => ∃ a, v = .ref a ∧ H a = some (entO e)
  mono := fun s h => by obtain ⟨a, e, h⟩ := h; exact ⟨a, e, s _ _ h⟩
  py := entP
  dp := fun {K H v d} h => by
    obtain ⟨a, rfl, h⟩ := h
    cases d with
    | emp => exact .tup (SqT.of h) .nil
    | go p w r => exact .tup (SqT.of h) (.cons (.int _) (.cons (.int _) (.cons (.int _) .nil)))
  can := fun d => by cases d <;> rfl
  dep := 1
  depth := fun d => by cases d <;> simp [entP, PyData.depth, PyData.depthAll]
  eqv := fun a b => by cases a <;> cases b <;> simp [entP, PyData.eqv, PyData.eqvAll]
instance : Big Ent := ⟨fun d => by cases d <;> exact .inl ⟨_, rfl⟩⟩
abbrev Mach := List (List Ent)
/-! ### pairs of ints: a dict's items, sorted ones -/
abbrev PI := T2 Int Int
def dI (l : List PI) : List (Key × V) := l.map fun p => (Sum.inl p.a, V.int p.b)
def look (l : List PI) (x : Int) : Option Int := (l.find? fun p => decide (p.a = x)).map (·.b)
def put (l : List PI) (x v : Int) : List PI := if (l.any fun p => decide (p.a = x)) = true then l.map (fun p => if p.a = x then ⟨p.a, v⟩ else p) else l ++ [⟨x, v⟩]
def merge (l m : List PI) : List PI := m.foldl (fun acc p => put acc p.a p.b) l
theorem key_inl (a b : Int) : ((Sum.inl a : Key) = Sum.inl b) = (a = b) := propext ⟨Sum.inl.inj, fun h => by rw [h]⟩
theorem dI_val (x : Int) : ∀ l : List PI, valV (dI l) (Sum.inl x) = (look l x).map V.int
  | [] => rfl
  | p :: l => by
    have ih := dI_val x l
    show valV ((Sum.inl p.a, V.int p.b) :: dI l) (Sum.inl x) = _
    by_cases e : p.a = x
    · rw [valV_pos (by rw [key_inl]; exact e)]
      simp [look, e]
    · rw [valV_neg (by rw [key_inl]; exact e), ih]
      simp [look, e]
theorem dI_put (l : List PI) (x v : Int) : putK (dI l) (Sum.inl x) (.int v) = dI (put l x v) := by
  have e : ((dI l).any fun kv => decide (kv.1 = Sum.inl x)) = (l.any fun p => decide (p.a = x)) := by
    unfold dI
    rw [List.any_map]
    congr 1
    funext p
    simp only [Function.comp, key_inl]
  unfold putK put
  rw [e]
  by_cases a : (l.any fun p => decide (p.a = x)) = true
  · rw [if_pos a, if_pos a]
    unfold dI
    rw [List.map_map, List.map_map]
    congr 1
    funext p
    simp only [Function.comp, key_inl]
    by_cases h : p.a = x
    · rw [if_pos h, if_pos h]
    · rw [if_neg h, if_neg h]
  · rw [if_neg a, if_neg a]
    unfold dI
    rw [List.map_append]
    rfl
theorem dI_merge (m : List PI) : ∀ l : List PI, mergeK (dI l) (dI m) = dI (merge l m) := by
  induction m with
  | nil => intro l; rfl
  | cons p m ih =>
    intro l
    show mergeK (putK (dI l) (Sum.inl p.a) (.int p.b)) (dI m) = dI (merge (put l p.a p.b) m)
    rw [dI_put]
    exact ih _
theorem look_nil (x : Int) : look [] x = none := rfl
theorem look_cons (p : PI) (l : List PI) (x : Int) : look (p :: l) x = if p.a = x then some p.b else look l x := by
  unfold look
  rw [List.find?_cons]
  by_cases e : p.a = x
  · simp [e]
  · simp [e]
theorem look_any (x : Int) : ∀ l : List PI, (l.any fun p => decide (p.a = x)) = (look l x).isSome
  | [] => rfl
  | p :: l => by
    rw [List.any_cons, look_any x l, look_cons]
    by_cases e : p.a = x
    · simp [e]
    · simp [e]
theorem look_map (x y v : Int) : ∀ l : List PI, look (l.map fun p => if p.a = x then ⟨p.a, v⟩ else p) y = (look l y).map fun z => if y = x then v else z
  | [] => rfl
  | p :: l => by
    rw [List.map_cons, look_cons, look_cons, look_map x y v l]
    by_cases e : p.a = x
    · rw [if_pos e]
      by_cases f : p.a = y
      · rw [if_pos f, if_pos f]
        rw [← f, Option.map_some, if_pos e]
      · rw [if_neg f, if_neg f]
    · rw [if_neg e]
      by_cases f : p.a = y
      · rw [if_pos f, if_pos f, Option.map_some, if_neg (by rw [← f]; exact e)]
      · rw [if_neg f, if_neg f]
theorem look_app (l m : List PI) (x : Int) : look (l ++ m) x = (look l x).or (look m x) := by
  induction l with
  | nil => rfl
  | cons p l ih =>
    rw [List.cons_append, look_cons, look_cons, ih]
    by_cases e : p.a = x
    · rw [if_pos e, if_pos e]; rfl
    · rw [if_neg e, if_neg e]
theorem look_put (l : List PI) (x v y : Int) : look (put l x v) y = if y = x then some v else look l y := by
  unfold put
  by_cases a : (l.any fun p => decide (p.a = x)) = true
  · rw [if_pos a, look_map]
    by_cases e : y = x
    · rw [if_pos e, e]
      rw [look_any] at a
      obtain ⟨z, hz⟩ := Option.isSome_iff_exists.mp a
      rw [hz, Option.map_some, if_pos rfl]
    · rw [if_neg e]
      cases look l y with
      | none => rfl
      | some z => rw [Option.map_some, if_neg e]
  · rw [if_neg a, look_app]
    rw [look_any] at a
    by_cases e : y = x
    · rw [if_pos e, e]
      cases h : look l x with
      | none => rw [look_cons, if_pos rfl]; rfl
      | some z => rw [h] at a; exact absurd rfl a
    · rw [if_neg e, look_cons, if_neg (fun z => e z.symm), look_nil]
      cases look l y <;> rfl
/-- no place twice -/
def Nd (l : List PI) : Prop := (l.map (·.a)).Nodup
theorem look_none {l : List PI} {x : Int} : look l x = none ↔ x ∉ l.map (·.a) := by
  induction l with
  | nil => simp [look_nil]
  | cons p l ih =>
    rw [look_cons, List.map_cons, List.mem_cons]
    by_cases e : p.a = x
    · rw [if_pos e]; simp [e]
    · rw [if_neg e, ih]
      constructor
      · intro h z
        rcases z with z | z
        · exact e z.symm
        · exact h z
      · intro h z
        exact h (.inr z)
theorem look_mem {l : List PI} (h : Nd l) {p : PI} (m : p ∈ l) : look l p.a = some p.b := by
  induction l with
  | nil => cases m
  | cons q l ih =>
    have h' := List.nodup_cons.mp h
    rw [look_cons]
    rcases List.mem_cons.mp m with rfl | m
    · rw [if_pos rfl]
    · rw [if_neg (fun e => h'.1 (by show q.a ∈ _; rw [e]; exact List.mem_map.mpr ⟨p, m, rfl⟩))]
      exact ih h'.2 m
theorem mem_look {l : List PI} {x v : Int} (h : look l x = some v) : (⟨x, v⟩ : PI) ∈ l := by
  induction l with
  | nil => cases h
  | cons q l ih =>
    rw [look_cons] at h
    by_cases e : q.a = x
    · rw [if_pos e] at h
      cases h
      subst e
      exact List.mem_cons_self
    · rw [if_neg e] at h
      exact List.mem_cons_of_mem _ (ih h)
theorem nd_put {l : List PI} (h : Nd l) (x v : Int) : Nd (put l x v) := by
  unfold put
  by_cases a : (l.any fun p => decide (p.a = x)) = true
  · rw [if_pos a]
    unfold Nd
    rw [List.map_map]
    have e : ((fun p : PI => p.a) ∘ fun p : PI => if p.a = x then (⟨p.a, v⟩ : PI) else p) = fun p : PI => p.a := by
      funext p
      simp only [Function.comp]
      split <;> rfl
    rw [e]; exact h
  · rw [if_neg a]
    unfold Nd
    rw [List.map_append]
    refine nd_snoc h ?_
    rw [look_any] at a
    refine look_none.mp ?_
    cases q : look l x with
    | none => rfl
    | some z => rw [q] at a; exact absurd rfl a
theorem put_new {l : List PI} {x : Int} (v : Int) (h : look l x = none) : put l x v = l ++ [⟨x, v⟩] := by
  unfold put
  rw [look_any, h]
  rfl
theorem merge_nd {m : List PI} : ∀ {l : List PI}, Nd (l ++ m) → merge l m = l ++ m := by
  induction m with
  | nil => intro l _; simp [merge]
  | cons p m ih =>
    intro l h
    have e : l ++ p :: m = (l ++ [p]) ++ m := by simp
    have hn : look l p.a = none := by
      refine look_none.mpr fun z => ?_
      unfold Nd at h
      rw [List.map_append] at h
      exact (List.nodup_append.mp h).2.2 _ z _ (by rw [List.map_cons]; exact List.mem_cons_self) rfl
    show merge (put l p.a p.b) m = _
    rw [put_new _ hn, e]
    exact ih (by rw [← e]; exact h)
theorem nd_nil : Nd [] := List.nodup_nil
theorem put_len (l : List PI) (x v : Int) : (put l x v).length ≤ l.length + 1 := by
  unfold put
  split
  · rw [List.length_map]; omega
  · rw [List.length_append]; exact Nat.le_refl _
/-- Python's order of pairs -/
def leP (p q : PI) : Bool := decide (p.a < q.a) || (decide (p.a = q.a) && decide (p.b ≤ q.b))
theorem leP_iff {p q : PI} : leP p q = true ↔ p.a < q.a ∨ (p.a = q.a ∧ p.b ≤ q.b) := by simp [leP]
def ins (p : PI) : List PI → List PI
  | [] => [p]
  | q :: l => if leP p q = true then p :: q :: l else q :: ins p l
def srt (l : List PI) : List PI := l.foldr ins []
theorem ins_perm (p : PI) : ∀ l : List PI, (ins p l).Perm (p :: l)
  | [] => List.Perm.refl _
  | q :: l => by
    unfold ins
    split
    · exact List.Perm.refl _
    · exact (List.Perm.cons q (ins_perm p l)).trans (List.Perm.swap p q l)
theorem srt_perm : ∀ l : List PI, (srt l).Perm l
  | [] => List.Perm.refl _
  | p :: l => (ins_perm p (srt l)).trans ((srt_perm l).cons p)
abbrev LeP (p q : PI) : Prop := leP p q = true
theorem leP_trans {p q r : PI} (h1 : LeP p q) (h2 : LeP q r) : LeP p r := by
  have a := leP_iff.mp h1
  have b := leP_iff.mp h2
  exact leP_iff.mpr (by omega)
theorem leP_total (p q : PI) : LeP p q ∨ LeP q p := by
  show leP p q = true ∨ leP q p = true
  rw [leP_iff, leP_iff]
  omega
theorem ins_srt (p : PI) : ∀ {l : List PI}, l.Pairwise LeP → (ins p l).Pairwise LeP
  | [], _ => List.pairwise_singleton _ _
  | q :: l, h => by
    have h' := List.pairwise_cons.mp h
    unfold ins
    split
    · rename_i e
      refine List.pairwise_cons.mpr ⟨fun x m => ?_, h⟩
      rcases List.mem_cons.mp m with rfl | m
      · exact e
      · exact leP_trans e (h'.1 x m)
    · rename_i e
      refine List.pairwise_cons.mpr ⟨fun x m => ?_, ins_srt p h'.2⟩
      rcases List.mem_cons.mp ((ins_perm p l).mem_iff.mp m) with rfl | m
      · rcases leP_total q x with z | z
        · exact z
        · exact absurd z e
      · exact h'.1 x m
theorem srt_srt : ∀ l : List PI, (srt l).Pairwise LeP
  | [] => List.Pairwise.nil
  | p :: l => ins_srt p (srt_srt l)
theorem leP_anti {p q : PI} (h1 : LeP p q) (h2 : LeP q p) : p = q := by
  have a := leP_iff.mp h1
  have b := leP_iff.mp h2
  obtain ⟨x, y⟩ := p
  obtain ⟨x', y'⟩ := q
  have e1 : x = x' := by show x = x'; simp only at a b; omega
  have e2 : y = y' := by simp only at a b; omega
  rw [e1, e2]
/-- there is one sorted list of them -/
theorem srt_uniq : ∀ {l m : List PI}, l.Pairwise LeP → m.Pairwise LeP → l.Perm m → l = m
  | [], m, _, _, h => (List.Perm.eq_nil h.symm).symm
  | x :: l, [], _, _, h => absurd h.length_eq (by simp)
  | x :: l, y :: m, hl, hm, h => by
    have l' := List.pairwise_cons.mp hl
    have m' := List.pairwise_cons.mp hm
    have h1 : LeP y x := by
      rcases List.mem_cons.mp (h.mem_iff.mp (List.mem_cons_self (a := x) (l := l))) with e | z
      · rw [e]; rcases leP_total y y with z | z <;> exact z
      · exact m'.1 x z
    have h2 : LeP x y := by
      rcases List.mem_cons.mp (h.mem_iff.mpr (List.mem_cons_self (a := y) (l := m))) with e | z
      · rw [e]; rcases leP_total x x with z | z <;> exact z
      · exact l'.1 y z
    have e := leP_anti h2 h1
    subst e
    rw [srt_uniq l'.2 m'.2 h.cons_inv]
theorem srt_of {l m : List PI} (h : m.Pairwise LeP) (p : m.Perm l) : m = srt l := srt_uniq h (srt_srt l) (p.trans (srt_perm l).symm)
/-- what a value says as a pair, read off the heap -/
def pOf (H : Hp) : V → Int × Int
  | .ref t => match H t with
    | some (.tup [.int i, .int j]) => (i, j)
    | _ => (0, 0)
  | _ => (0, 0)
theorem pOf_is {H : Hp} {v : V} {d : PI} (h : Is H v d) : ∃ t, v = .ref t ∧ H t = some (.tup [.int (pOf H v).1, .int (pOf H v).2]) ∧ d = ⟨(pOf H v).1, (pOf H v).2⟩ := by
  obtain ⟨t, x, y, rfl, h1, h2, h3⟩ := h
  have h2 : x = .int d.a := h2
  have h3 : y = .int d.b := h3
  subst h2
  subst h3
  have e : pOf H (.ref t) = (d.a, d.b) := by simp only [pOf, h1]
  exact ⟨t, rfl, by rw [e]; exact h1, by rw [e]⟩
theorem all_of {H : Hp} : ∀ {xs : List V} {l : List PI}, IsAll H xs l → l = xs.map fun v => (⟨(pOf H v).1, (pOf H v).2⟩ : PI) := fun {xs l} h => by
  refine List.ext_getElem? fun i => ?_
  rw [List.getElem?_map]
  cases e : xs[i]? with
  | none =>
    have := List.getElem?_eq_none_iff.mp e
    exact List.getElem?_eq_none_iff.mpr (by rw [← h.1]; exact this)
  | some x =>
    obtain ⟨d, hd, hx⟩ := h.get' e
    obtain ⟨t, _, _, q⟩ := pOf_is hx
    rw [hd, q]
    rfl
/-- sorted of a list of pairs -/
theorem sort_pairs {K : PySem.W.Frag} {F H : Hp} {a : Addr} {xs : List V} {l : List PI} {Q : VK} (sF : Same F H) (hx : IsAll F xs l) (ha : SqL K H a xs) (q : ∀ ys p, H p = none → IsAll F ys (srt l) → Q (.ref p) (upd H p (.lst ys))) : rSortQ K [.ref a] H Q := by
  unfold rSortQ
  refine ⟨a, xs, pOf F, rfl, ha, fun x m => ?_, fun ys p hs hb np => q ys p np ?_⟩
  · obtain ⟨i, hi⟩ := List.getElem?_of_mem m
    obtain ⟨d, _, hd⟩ := hx.get' hi
    obtain ⟨t, e, h, _⟩ := pOf_is hd
    exact ⟨t, e, sF _ _ h⟩
  · have el := all_of hx
    have hys : IsAll F ys (ys.map fun v => (⟨(pOf F v).1, (pOf F v).2⟩ : PI)) := by
      refine ⟨by rw [List.length_map], fun i x y h1 h2 => ?_⟩
      rw [List.getElem?_map, h1] at h2
      cases h2
      have m : x ∈ xs := hb.perm.mem_iff.mp (List.mem_of_getElem? h1)
      obtain ⟨j, hj⟩ := List.getElem?_of_mem m
      obtain ⟨d, _, hd⟩ := hx.get' hj
      obtain ⟨t, e, h, e2⟩ := pOf_is hd
      exact ⟨t, _, _, e, h, rfl, rfl⟩
    have es : (ys.map fun v => (⟨(pOf F v).1, (pOf F v).2⟩ : PI)) = srt l := by
      refine srt_of ?_ ?_
      · refine List.pairwise_map.mpr (List.Pairwise.imp (fun {x y} h => ?_) hs)
        have h := SrtO.lexB_no.mp h
        exact leP_iff.mpr (by simp only; omega)
      · rw [el]
        exact hb.perm.map _
    rw [es] at hys
    exact hys
theorem pairs_of {K : PySem.W.Frag} {H : Hp} : ∀ {xs : List V} {l : List PI}, IsAll H xs l → ∃ ps : List Addr, xs = ps.map V.ref ∧ Paired (fun p kv => SqT K H p [kV kv.1, kv.2]) ps (dI l)
  | [], [], _ => ⟨[], rfl, .nil⟩
  | [], d :: l, h => by have := h.1; simp at this
  | x :: xs, [], h => by have := h.1; simp at this
  | x :: xs, d :: l, h => by
    obtain ⟨t, x1, x2, e, h1, h2, h3⟩ := h.2 0 x d rfl rfl
    have h2 : x1 = .int d.a := h2
    have h3 : x2 = .int d.b := h3
    subst h2
    subst h3
    obtain ⟨ps, e2, p⟩ := pairs_of (K := K) (xs := xs) (l := l) ⟨by have := h.1; simpa using this, fun i a b p q => h.2 (i + 1) a b (by simpa using p) (by simpa using q)⟩
    exact ⟨t :: ps, by rw [e, e2]; rfl, .cons (SqT.of h1) p⟩
/-- dict(pairs) -/
theorem dict_pairs {K : PySem.W.Frag} {H : Hp} {a : Addr} {xs : List V} {l : List PI} {Q : VK} (hx : IsAll H xs l) (ha : SqL K H a xs) (q : ∀ p, H p = none → Q (.ref p) (upd H p (.dK (dI (merge [] l))))) : rDictP K [.ref a] H Q := by
  unfold rDictP
  obtain ⟨ps, e, p⟩ := pairs_of (K := K) hx
  refine ⟨a, ps, dI l, rfl, by rw [← e]; exact ha, p, fun d nd => ?_⟩
  have e2 : mergeK [] (dI l) = dI (merge [] l) := dI_merge l []
  rw [e2]
  exact q d nd
/-! ### a dict under its lock -/
theorem lock_in {F H : Hp} {d : Addr} {o : HO} (s : Same F H) : Same (fun c => if c = d then none else F c) (upd H d o) := fun c u h => by
  by_cases e : c = d
  · simp only [e, if_true] at h; cases h
  · simp only [e, if_false] at h
    rw [upd_ne e]; exact s c u h
theorem lock_out {F H F2 H2 : Hp} {d : Addr} {o u : HO} (s : Same F H) (h : H d = some u) (g : Gr mu0 (fun c => if c = d then none else F c) (upd H d o) F2 H2) :
    H2 d = some o ∧ Same F2 (fun c => if c = d then F d else F2 c) ∧ Gr mu0 F H (fun c => if c = d then F d else F2 c) (upd H2 d u) := by
  have n2 : F2 d = none := by
    cases e : F2 d with
    | none => rfl
    | some z =>
      rcases g.nw d z e with k | k
      · simp only [if_true] at k; cases k
      · rw [upd_same] at k; cases k
  refine ⟨g.fr d o upd_same (fun z => z), fun c z e => ?_, ⟨fun c z e => ?_, fun c z e => ?_, fun c z e => ?_, fun c z e m => ?_, fun c e => ?_⟩⟩
  · by_cases k : c = d
    · rw [k, n2] at e; cases e
    · simp only [k, if_false]; exact e
  · by_cases k : c = d
    · simp only [k, if_true]; rw [← k]; exact e
    · simp only [k, if_false]
      exact g.ff c z (by simp only [k, if_false]; exact e)
  · by_cases k : c = d
    · simp only [k, if_true] at e
      rw [k, upd_same, ← h]
      exact s d z e
    · simp only [k, if_false] at e
      rw [upd_ne k]; exact g.fh c z e
  · by_cases k : c = d
    · simp only [k, if_true] at e
      exact .inl (by rw [k]; exact e)
    · simp only [k, if_false] at e
      rcases g.nw c z e with q | q
      · simp only [k, if_false] at q; exact .inl q
      · rw [upd_ne k] at q; exact .inr q
  · by_cases k : c = d
    · rw [k, upd_same]; rw [k, h] at e; exact e
    · rw [upd_ne k]
      exact g.fr c z (by rw [upd_ne k]; exact e) (fun z => z)
  · by_cases k : c = d
    · rw [k, upd_same] at e; cases e
    · rw [upd_ne k] at e
      have q := g.th c e
      rw [upd_ne k] at q; exact q
/-- the signs that aren't 0, in order -/
def nz (p : PI) : Bool := decide (p.b ≠ 0)
def told (l : List PI) : List PI := srt (l.filter nz)
theorem dI_get {l : List PI} {i : Nat} (h : i < l.length) : (dI l)[i]? = some (Sum.inl l[i].a, V.int l[i].b) := by
  unfold dI
  rw [List.getElem?_map, List.getElem?_eq_getElem h]
  rfl
theorem filter_take_succ {l : List PI} {f : PI → Bool} {i : Nat} (h : i < l.length) : (l.take (i + 1)).filter f = (l.take i).filter f ++ (if f l[i] = true then [l[i]] else []) := by
  rw [List.take_add_one, List.getElem?_eq_getElem h, List.filter_append]
  show _ ++ List.filter f [l[i]] = _
  rw [List.filter_cons]
  split <;> rfl
theorem nd_srt {l : List PI} (h : Nd l) : Nd (srt l) := ((srt_perm l).map (fun p : PI => p.a)).nodup_iff.mpr h
theorem mem_srt {l : List PI} {q : PI} : q ∈ srt l ↔ q ∈ l := (srt_perm l).mem_iff
theorem mem_put {l : List PI} {x v : Int} {q : PI} (m : q ∈ put l x v) : q ∈ l ∨ q = ⟨x, v⟩ := by
  unfold put at m
  split at m
  · obtain ⟨z, hz, e⟩ := List.mem_map.mp m
    split at e
    · rename_i h1 h2
      exact .inr (by rw [← e, h2])
    · exact .inl (by rw [← e]; exact hz)
  · rcases List.mem_append.mp m with m | m
    · exact .inl m
    · exact .inr (List.mem_singleton.mp m)
/-! ### sorted(d.items()), d a dict of ints to ints -/
section
open PySem.Spec PyProof.Rows
variable {X : Cx}
/-- many new things are tracked at once -/
theorem inv_many {pins : List (Addr × Obj)} {σ : L2.St} {H H' : Hp} {s : Shared} {h' : Heap} {tk : Nat} {as : List Addr} (I : Inv X pins σ H s) (k : ∀ b o, s.heap.get? b = some o → h'.get? b = some o) (hp : ∀ a ∈ as, s.heap.objs.size ≤ a)
    (p1 : ∀ b, b ∉ as → H' b = H b) (p2 : ∀ b ∈ as, ∀ o, H' b = some o → ObjOk X.prog X.w H' h' b o) : Inv X pins σ H' { s with heap := h', toks := tk } := by
  have old : ∀ b o, s.heap.get? b = some o → b ∉ as := fun b o e z => Nat.lt_irrefl _ (Nat.lt_of_lt_of_le (Heap.lt_size e) (hp b z))
  have trc : ∀ b o, H b = some o → b ∉ as := fun b o e z => by
    have := I.hok.lt e
    exact Nat.lt_irrefl _ (Nat.lt_of_lt_of_le this (hp b z))
  have kp : ∀ b o, H b = some o → H' b = some o := fun b o e => by rw [p1 b (trc b o e)]; exact e
  refine I.un ⟨fun b o q _ _ _ => k b o q, fun b o q _ _ _ => ⟨o.slots, k b o q⟩, fun b o q n _ => by rw [p1 b (old b o q)]; exact n, fun b o q _ => ⟨o, k b o q⟩, fun b xs e => kp b _ e, fun b o u e => kp b _ e, fun b ps e => ⟨#[], by rw [kp b _ e]; simp⟩⟩ fun b o e => ?_
  by_cases m : b ∈ as
  · exact p2 b m o e
  · rw [p1 b m] at e
    exact (I.hok b o e).stay (fun c u _ q => k c u q) (fun c q => kp c _ q) fun c xs q => kp c _ q
/-- the pair that stands at a -/
def pzAt (zs : List (Addr × PI)) (a : Addr) : Option PI := (zs.find? fun z => decide (z.1 = a)).map (·.2)
theorem pzAt_ix : ∀ {zs : List (Addr × PI)}, (zs.map (·.1)).Nodup → ∀ {j : Nat} {z : Addr × PI}, zs[j]? = some z → pzAt zs z.1 = some z.2
  | [], _, j, z, h => by cases h
  | y :: ys, nd, 0, z, h => by
    have e := Option.some.inj h
    subst e
    simp [pzAt]
  | y :: ys, nd, j + 1, z, h => by
    have nd' := List.nodup_cons.mp nd
    have m : z.1 ∈ ys.map (·.1) := List.mem_map.mpr ⟨z, List.mem_of_getElem? (show ys[j]? = some z from h), rfl⟩
    have ih := pzAt_ix nd'.2 (show ys[j]? = some z from h)
    have ne : ¬ y.1 = z.1 := fun e => nd'.1 (by show y.1 ∈ _; rw [e]; exact m)
    unfold pzAt at ih ⊢
    rw [List.find?_cons, decide_eq_false ne]
    exact ih
theorem pzAt_no {zs : List (Addr × PI)} {a : Addr} (h : a ∉ zs.map (·.1)) : pzAt zs a = none := by
  unfold pzAt
  rw [List.find?_eq_none.mpr fun z m e => h (List.mem_map.mpr ⟨z, m, of_decide_eq_true e⟩)]
  rfl
def trk (H : Hp) (B : Addr) (L : HO) (zs : List (Addr × PI)) : Hp := fun b => if b = B then some L else match pzAt zs b with
  | some q => some (.tup [.int q.a, .int q.b])
  | none => H b
def adOf : Value → Addr
  | .ref a => a
  | _ => 0
@[irreducible] def rSortIt : V → Hp → VK → Prop := fun x H Q => ∃ (d : Addr) (l : List PI), x = .ref d ∧ H d = some (.dK (dI l)) ∧
  ∀ (H' : Hp) (p : Addr) (ys : List Addr), Same H H' → H p = none → (∀ t ∈ ys, H t = none) → p ∉ ys → (∀ b, b ≠ p → b ∉ ys → H' b = H b) → H' p = some (.lst (ys.map V.ref)) → All2 (fun t (q : PI) => H' t = some (.tup [.int q.a, .int q.b])) ys (srt l) → Q (.ref p) H'
def tSortIt (te : TE) : TE := fun σ H Q => te σ H fun x H1 => rSortIt x H1 Q
theorem pe_sortedItems {e : Expr} {te : TE} {p apos cpos pos : Pos} (hc : X.calm = true) (he : PE X e te) (hg : Gl X "sorted") (hm : X.mg "sorted" = none) (hv : bootBuiltins "sorted" = some (.builtin "sorted")) (hbase : attributeBase e "items" X.env (eval e X.env) = eval e X.env := by rfl) (hline : (apos.endLine == cpos.line) = true := by rfl)
    (hs : starEach [.Call (.Attribute e "items" apos) [] [] cpos] X.env = (false, eval (.Call (.Attribute e "items" apos) [] [] cpos) X.env) :: starEach [] X.env := by rfl) :
    PE X (.Call (.Name "sorted" p) [.Call (.Attribute e "items" apos) [] [] cpos] [] pos) (tSortIt te) := by
  refine ⟨fun pins s σ H Q I hq => ?_⟩
  refine wpAny_Call_Name_kw (ld_blt I hg hm hv ?_)
  refine PyProof.Rows.callWith_builtin1 ?_ hs rfl
  rw [hs]
  show wpAny _ _ (spliced ((false, eval (.Call (.Attribute e "items" apos) [] [] cpos) X.env) :: backTo pos (starEach [] X.env))) _ _ s
  refine Calls.spliced_cons ?_
  refine wpAny_Call_method (T := "dict") (id := "dict.items") hbase rfl hline F.plainAttrs_dict F.slot_dict_items F.type_dict_items (thn (he.run pins s σ H _ I hq) fun u s1 ⟨x, H1, I1, rx, q⟩ => ?_)
  unfold rSortIt at q
  obtain ⟨d, l, rfl, hd, q⟩ := q
  obtain rfl : u = Value.ref d := rx
  obtain ⟨hz, hs0, vs, kv, hdo⟩ := I1.hok d _ hd
  obtain ⟨ep, hat⟩ := hdo.dictAt
  have lk : (dI l).length = vs.length := Paired.length kv
  have ll : (dI l).length = l.length := by unfold dI; rw [List.length_map]
  refine ⟨hdo.typeIs, hdo.mapOf.noDict, ?_⟩
  show wpAny _ _ (callWith cpos (.builtin "dict.items") [.ref d] [] []) _ X.xe s1
  refine method_meetsIn F.slot_dict_items F.entry_dict_items rfl (PySem.evalArgs_none ⟨rfl, hdo.typeIs, F.args_dict_items_1 _, _, meets_dict_items (mixKind X.prog X.w) d hs0, ⟨vs, hdo⟩, ?_⟩)
  refine Calls.spliced_nil ?_
  have I2 : Inv X pins σ H1 { s1 with heap := s1.heap.push { cls := .type "dict_items", data := .fields #[.ref d] } } := I1.kept (t' := s1.toks) fun b ob q => Heap.get?_push_of_some _ q
  have hB : ((H1 d).isSome) = true := by rw [hd]; rfl
  refine Calls.call_function_entry kind_sorted plain_sorted entry_sorted (args_sorted1 _) (by
    unfold Builtin.«sorted»
    refine wpAny_bind (m := checkCount "sorted" 1 1 _) (wpAny_pure (wpAny_bind (PySem.W.kdx_collect (knd := mixKind X.prog X.w) (kvs := vs) (ep := ep) (I1.ok.hd hc) ⟨_, Heap.get?_push_size _ rfl, rfl, rfl⟩ (hat.push _) (by omega) fun h1 tk as hk hl hG => ?_)))
    refine wpAny_bind (wpAny_newList ?_ (by rw [List.length_map, hl]; omega))
    -- the pairs' tuples: at as
    have nd : as.Nodup := hG.rise.imp fun {a b} h => Nat.ne_of_lt h
    have lz : (as.zip l).map (·.1) = as := List.map_fst_zip (by omega)
    have zx : ∀ (j : Nat) (a : Addr), as[j]? = some a → ∃ (q : PI) (t u : Tok), l[j]? = some q ∧ pzAt (as.zip l) a = some q ∧ h1.get? a = some { cls := .type "tuple", data := .seq #[.int q.a t, .int q.b u] } := fun j a h => by
      obtain ⟨key, k, x, e1, e2, e3⟩ := hG.pairs j a h
      have jl : j < l.length := by have := (List.getElem?_eq_some_iff.mp h).1; omega
      have lj : l[j]? = some l[j] := List.getElem?_eq_getElem jl
      obtain ⟨y, e4, e5, e6⟩ := LiI.paired_get kv (dI_get jl)
      rw [e1] at e4
      have e4 := Option.some.inj e4
      subst e4
      obtain ⟨i, tk1, e7, rfl⟩ | ⟨z, tk1, e7, _⟩ := keyIs_shape (show keyIs k key = true from e2)
      · have e5 : Sum.inl l[j].a = k := e5
        rw [e7] at e5
        have e5 := Sum.inl.inj e5
        subst e5
        obtain ⟨tk2, e6⟩ := (show RelV (.int l[j].b) x from e6)
        subst e6
        exact ⟨l[j], tk1, tk2, lj, pzAt_ix (zs := as.zip l) (by rw [lz]; exact nd) (j := j) (z := (a, l[j])) (List.getElem?_zip_eq_some.mpr ⟨h, lj⟩), e3⟩
      · have e5 : Sum.inl l[j].a = k := e5
        rw [e7] at e5
        cases e5
    have zm : ∀ a ∈ as, ∃ (q : PI) (t u : Tok), pzAt (as.zip l) a = some q ∧ h1.get? a = some { cls := .type "tuple", data := .seq #[.int q.a t, .int q.b u] } := fun a m => by
      obtain ⟨j, hj⟩ := List.getElem?_of_mem m
      obtain ⟨q, t, u, _, h2, h3⟩ := zx j a hj
      exact ⟨q, t, u, h2, h3⟩
    have lm : as.map (fun a => (pzAt (as.zip l) a).getD ⟨0, 0⟩) = l := by
      refine List.ext_getElem? fun j => ?_
      rw [List.getElem?_map]
      cases hj : as[j]? with
      | none =>
        have := List.getElem?_eq_none_iff.mp hj
        exact (List.getElem?_eq_none_iff.mpr (by omega)).symm
      | some a =>
        obtain ⟨q, t, u, h1, h2, _⟩ := zx j a hj
        rw [h1, Option.map_some, h2]; rfl
    generalize ezs : as.zip l = zs at zx zm lm lz
    have s12 : (s1.heap.push { cls := .type "dict_items", data := .fields #[.ref d] }).objs.size ≤ h1.objs.size := by
      have := Heap.lt_size (hk _ _ (Heap.get?_push_size s1.heap rfl))
      rw [Heap.size_push]; exact this
    have Bn : h1.objs.size ∉ as := fun z => Nat.lt_irrefl _ (hG.there z)
    let kk : Value → Int × Int := fun v => (((pzAt zs (adOf v)).getD ⟨0, 0⟩).a, ((pzAt zs (adOf v)).getD ⟨0, 0⟩).b)
    have ho : (h1.push { cls := .type "list", data := .seq (as.map Value.ref).toArray }).get? h1.objs.size = some (seqObj "list" (as.map Value.ref).toArray 0) := Heap.get?_push_size _ rfl
    refine wpAny_bind (wpAny_holding (wpAny_call_entry slot_list_sort ⟨_, ho, rfl⟩ entry_list_sort (SrtO.list_sort_ord (ltv := fun v u => SrtO.lexB (kk v) (kk u)) (SrtO.swo_lex kk) ho (by rw [List.length_map, hl]; omega) (fun h2 => ?_) fun out hso hbo => ⟨_, rfl, wpAny_pure ⟨_, rfl, ?_⟩⟩) (args_list_sort _)))
    · refine SrtO.pairs_sortableO (k := kk) (by omega) (fun v m => ?_) fun o e => ?_
      · obtain ⟨a, ma, rfl⟩ := List.mem_map.mp m
        obtain ⟨q, t, u, h1', h2'⟩ := zm a ma
        refine ⟨a, _, t, u, 0, rfl, Heap.get?_push_of_some _ h2', rfl, ?_⟩
        show _ = Data.seq #[.int ((pzAt zs a).getD ⟨0, 0⟩).a t, .int ((pzAt zs a).getD ⟨0, 0⟩).b u] 0
        rw [h1']
        rfl
      · rw [ho] at e
        cases e
        intro c
        exact absurd (Value.type.inj c) (by decide)
    · have outp : out.Perm (as.map Value.ref) := hbo.perm
      have oe : out = (out.map adOf).map Value.ref := by
        rw [List.map_map]
        refine (List.map_id out).symm.trans (List.map_congr_left fun v m => ?_)
        obtain ⟨a, _, rfl⟩ := List.mem_map.mp (outp.mem_iff.mp m)
        rfl
      have yp : (out.map adOf).Perm as := by
        have := outp.map adOf
        rw [List.map_map] at this
        have e : as.map (adOf ∘ Value.ref) = as := (List.map_congr_left fun a _ => rfl).trans (List.map_id as)
        rw [e] at this; exact this
      generalize out.map adOf = ys at oe yp
      have lo : out.length ≤ sizeLine := by rw [oe, List.length_map, yp.length_eq, hl]; omega
      obtain ⟨ep3, h3B⟩ := sortedHeap_at (vs := as.map Value.ref) (out := out.toArray) ho
      have h3o : ∀ b o, h1.get? b = some o → (sortedHeap (h1.push { cls := .type "list", data := .seq (as.map Value.ref).toArray }) h1.objs.size (as.map Value.ref) out.toArray).get? b = some o := fun b o e => by
        have bl := Heap.lt_size e
        rw [sortedHeap_old (Nat.ne_of_lt bl) (by rw [Heap.size_push]; exact Nat.lt_succ_of_lt bl)]
        exact Heap.get?_push_of_some _ e
      have tB : trk H1 h1.objs.size (.lst (ys.map V.ref)) zs h1.objs.size = some (.lst (ys.map V.ref)) := by unfold trk; rw [if_pos rfl]
      have tT : ∀ a ∈ as, ∀ q, pzAt zs a = some q → trk H1 h1.objs.size (.lst (ys.map V.ref)) zs a = some (.tup [.int q.a, .int q.b]) := fun a m q e => by
        unfold trk
        rw [if_neg (fun z => Bn (by rw [← z]; exact m)), e]
      have tO : ∀ b, b ≠ h1.objs.size → b ∉ as → trk H1 h1.objs.size (.lst (ys.map V.ref)) zs b = H1 b := fun b n m => by
        unfold trk
        rw [if_neg n, pzAt_no (by rw [lz]; exact m)]
      have big : ∀ a ∈ h1.objs.size :: as, (s1.heap.push { cls := .type "dict_items", data := .fields #[.ref d] }).objs.size ≤ a := fun a m => by
        rcases List.mem_cons.mp m with rfl | m
        · exact s12
        · exact Nat.le_of_lt (hG.above a m)
      have J := inv_many (tk := tk) (H' := trk H1 h1.objs.size (.lst (ys.map V.ref)) zs) (h' := sortedHeap (h1.push { cls := .type "list", data := .seq (as.map Value.ref).toArray }) h1.objs.size (as.map Value.ref) out.toArray) (as := h1.objs.size :: as) I2 (fun b o e => h3o b o (hk b o e)) big
          (fun b m => tO b (fun z => m (by rw [z]; exact List.mem_cons_self)) (fun z => m (List.mem_cons_of_mem _ z))) (fun b m o e => by
        by_cases hb : b = h1.objs.size
        · subst hb
          rw [tB] at e
          cases e
          refine ⟨by rw [List.length_map, yp.length_eq, hl]; omega, out, ep3, ?_, h3B⟩
          rw [oe]
          exact LiI.vals_refs ys
        · have m := (List.mem_cons.mp m).resolve_left hb
          obtain ⟨q, t, u, e1, e2⟩ := zm b m
          rw [tT b m q e1] at e
          cases e
          exact ⟨two_le, [.int q.a t, .int q.b u], .cons ⟨_, rfl⟩ (.cons ⟨_, rfl⟩ .nil), ⟨_, h3o b _ e2, rfl, _, rfl⟩⟩)
      have fr1 : ∀ a ∈ h1.objs.size :: as, H1 a = none := fun a m => I2.hok.fresh (big a m)
      have ym : ∀ a, a ∈ ys ↔ a ∈ as := fun a => yp.mem_iff
      refine ⟨.ref h1.objs.size, _, J, rfl, q _ _ ys (fun b o e => ?_) (fr1 _ List.mem_cons_self) (fun t m => fr1 t (List.mem_cons_of_mem _ ((ym t).mp m))) (fun z => Bn ((ym _).mp z)) (fun b n m => tO b n fun z => m ((ym b).mpr z)) tB ?_⟩
      · rw [tO b (fun z => by rw [z, fr1 _ List.mem_cons_self] at e; cases e) (fun z => by rw [fr1 b (List.mem_cons_of_mem _ z)] at e; cases e)]
        exact e
      · have es : ys.map (fun a => (pzAt zs a).getD ⟨0, 0⟩) = srt l := by
          refine srt_of ?_ (by rw [← lm]; exact yp.map _)
          rw [oe] at hso
          have hso := List.pairwise_map.mp hso
          refine List.pairwise_map.mpr (hso.imp fun {x y} h => ?_)
          have h := SrtO.lexB_no.mp h
          exact leP_iff.mpr (by simp only [kk, adOf] at h; omega)
        rw [← es]
        refine ⟨by rw [List.length_map], fun i x y h1 h2 => ?_⟩
        rw [List.getElem?_map, h1] at h2
        cases h2
        have m := (ym x).mp (List.mem_of_getElem? h1)
        obtain ⟨q, t, u, e1, e2⟩ := zm x m
        rw [tT x m q e1]
        show _ = some (HO.tup [V.int ((pzAt zs x).getD ⟨0, 0⟩).a, V.int ((pzAt zs x).getD ⟨0, 0⟩).b])
        rw [e1]
        rfl)
theorem sitems {F H : Hp} {d : Addr} {l : List PI} {Q : VK} (sF : Same F H) (hd : H d = some (.dK (dI l))) (q : ∀ (F' H' : Hp) (p : Addr) (xs : List V), Gr mu0 F H F' H' → Ow H F' H' p (.lst xs) → IsAll F' xs (srt l) → Q (.ref p) H') : rSortIt (.ref d) H Q := by
  unfold rSortIt
  refine ⟨d, l, rfl, hd, fun H' p ys s n nt pn off hp al => ?_⟩
  have fy : ∀ b ∈ ys, F b = none := fun b m => sF.free (nt b m)
  have s' : Same F (fun b => if b ∈ ys then H' b else F b) := fun b o e => by
    by_cases m : b ∈ ys
    · rw [fy b m] at e; cases e
    · simp only [m, if_false]; exact e
  have e2 : ∀ b, b ∈ ys → (if b ∈ ys then H' b else F b) = H' b := fun b m => if_pos m
  refine q (fun b => if b ∈ ys then H' b else F b) H' p (ys.map V.ref) ⟨s', fun b o e => ?_, fun b o e => ?_, fun b o e _ => s b o e, fun b e => s.free e⟩ ⟨n, ?_, hp⟩ ⟨by rw [List.length_map]; exact al.1, fun i x y h1 h2 => ?_⟩
  · by_cases m : b ∈ ys
    · simp only [m, if_true] at e; exact e
    · simp only [m, if_false] at e; exact s b o (sF b o e)
  · by_cases m : b ∈ ys
    · exact .inr (nt b m)
    · simp only [m, if_false] at e; exact .inl e
  · show (if p ∈ ys then H' p else F p) = none
    rw [if_neg pn]; exact sF.free n
  · rw [List.getElem?_map] at h1
    cases e : ys[i]? with
    | none => rw [e] at h1; cases h1
    | some t =>
      rw [e] at h1
      cases h1
      refine ⟨t, _, _, rfl, ?_, rfl, rfl⟩
      show (if t ∈ ys then H' t else F t) = _
      rw [if_pos (List.mem_of_getElem? e)]
      exact al.2 i t y e h2
end
/-! ### sum of a tuple; a tuple not at all or once -/
section
open PySem.Spec PyProof.Rows
variable {X : Cx}
def rSumT (K : PySem.W.Frag) : List V → Hp → VK → Prop := fun vs H Q => ∃ (a : Addr) (ns : List Int), vs = [V.ref a] ∧ SqT K H a (ns.map V.int) ∧ Q (.int ns.sum) H
theorem cr_sumT (hc : X.calm = true) : CallR X (.builtin "sum") (rSumT X.K) := by
  intro pins s σ H vs us Q I r h
  obtain ⟨a, ns, rfl, ht, q⟩ := h
  obtain ⟨its, rv, ⟨o, ho, hcl, n, hd⟩, _⟩ := I.tuple ht
  have hi := rv.ints
  obtain ⟨xs, e⟩ := hi.allInts.items
  have hn : numsOf (intItems xs).toList = ns := by rw [← e]; exact hi.numsOf
  rw [nums_intItems] at hn
  rw [e] at hd
  rw [Vals.ref1 r]
  refine PySem.W.ktm_sumG (I.ok.hd hc) ⟨o, ho, hcl, n, hd⟩ fun h' tk t' hk => ?_
  rw [preSum_eq, List.take_of_length_le (by simp), hn]
  exact ⟨.int _, H, I.kept hk, ⟨_, rfl⟩, q⟩
theorem tup_mul1 (l : Addr) (items : Array Value) (n : Nat) (dd : Option Addr) (sl : Array (Option Value)) (u : Tok) (hne : items.isEmpty = false) :
    Meets (Builtin.«tuple.__mul__» ⟨[.ref l, .int 1 u], []⟩) (fun _ R s => s.heap.get? l = some { cls := .type "tuple", dict := dd, data := .seq items n, slots := sl } ∧ R (.ok (.ret (Value.ref l))) s) :=
  .of_wp fun prog w A R s h => by
    obtain ⟨hp, g, d, tk, os⟩ := s
    obtain ⟨hl, h⟩ := h
    have f1 := AutoSeq1.idx_int
    wp_walk using wpAny_loadPart' hl
    exact ⟨_, rfl, h⟩
theorem tup_mul0 (l : Addr) (items : Array Value) (n : Nat) (dd : Option Addr) (sl : Array (Option Value)) (u : Tok) (hne : items.isEmpty = false) :
    Meets (Builtin.«tuple.__mul__» ⟨[.ref l, .int 0 u], []⟩) (fun _ R s => s.heap.get? l = some { cls := .type "tuple", dict := dd, data := .seq items n, slots := sl } ∧
      R (.ok (.ret (Value.ref s.heap.objs.size))) { s with heap := s.heap.push { cls := Value.type "tuple", data := Data.seq #[] }, toks := s.toks }) :=
  .of_wp fun prog w A R s h => by
    obtain ⟨hp, g, d, tk, os⟩ := s
    obtain ⟨hl, h⟩ := h
    have f1 := AutoSeq1.idx_int
    wp_walk using wpAny_loadPart' hl
    exact ⟨_, rfl, h⟩
def rRep01 (K : PySem.W.Frag) : R2 := fun x y H Q => ∃ l k xs, x = .ref l ∧ y = .int k ∧ SqT K H l xs ∧ xs ≠ [] ∧ ((k = 1 ∧ Q (.ref l) H) ∨ (k = 0 ∧ ∀ p, H p = none → Q (.ref p) (upd H p (.tup []))))
theorem op_rep01 : OpR X (binaryOp .Mult) (rRep01 X.K) := by
  intro pins s σ H x y v u Q I rx ry h
  obtain ⟨l, k, xs, rfl, rfl, hT, hne, h⟩ := h
  cases rx
  obtain ⟨tk, rfl⟩ := ry
  obtain ⟨its, r, ⟨⟨cls, dd, data, sl⟩, ho, hc, n, hd⟩, hs⟩ := I.tuple hT
  simp only at hc hd
  subst hc hd
  have hi : its.toArray.isEmpty = false := by
    cases its with
    | nil => have := r.length; exact absurd (List.eq_nil_of_length_eq_zero this) hne
    | cons a b => rfl
  rcases h with ⟨rfl, q⟩ | ⟨rfl, q⟩
  · refine wpAny_binaryOp_repeat_ref (T := "tuple") (U := "int") (by decide) ⟨_, ho, rfl⟩ (fun s' => typeIs_int s' 1 tk) noFill_tuple_mul F.fills_int_mul F.slot_int_rmul repeat_tuple F.slot_int_index.lookup
      (call_meets F.slot_int_rmul (typeIs_int s 1 tk) F.entry_int_rmul (F.args_int_rmul_2 _ _) (int_rmul_tuple 1 tk l its.toArray n dd sl)
        ⟨ho, rfl, ⟨_, ho, rfl⟩, call_meets F.slot_tuple_mul ⟨_, ho, rfl⟩ F.entry_tuple_mul (F.args_tuple_mul_2 _ _) (tup_mul1 l its.toArray n dd sl tk hi) ⟨ho, ?_⟩⟩)
    exact ⟨.ref l, H, I, rfl, q⟩
  · refine wpAny_binaryOp_repeat_ref (T := "tuple") (U := "int") (by decide) ⟨_, ho, rfl⟩ (fun s' => typeIs_int s' 0 tk) noFill_tuple_mul F.fills_int_mul F.slot_int_rmul repeat_tuple F.slot_int_index.lookup
      (call_meets F.slot_int_rmul (typeIs_int s 0 tk) F.entry_int_rmul (F.args_int_rmul_2 _ _) (int_rmul_tuple 0 tk l its.toArray n dd sl)
        ⟨ho, rfl, ⟨_, ho, rfl⟩, call_meets F.slot_tuple_mul ⟨_, ho, rfl⟩ F.entry_tuple_mul (F.args_tuple_mul_2 _ _) (tup_mul0 l its.toArray n dd sl tk hi) ⟨ho, ?_⟩⟩)
    refine ⟨.ref s.heap.objs.size, _, I.laid (t' := s.toks) (o := .tup []) (fun b ob q => Heap.get?_push_of_some _ q) (Nat.le_refl _) ?_, rfl, q _ (I.hok.fresh (Nat.le_refl _))⟩
    exact ⟨nil_le, _, .nil, IsTup.new _ _⟩
end
/-! slices of tuples, +: the ways -/
@[irreducible] def rSlQ (K : PySem.W.Frag) : V → Option Int → Option Int → Hp → VK → Prop := rSlA K
theorem sl_tupQ {X : Cx} : SlR X (rSlQ X.K) := by
  unfold rSlQ
  exact sl_tupA
@[irreducible] def rCatQ (K : PySem.W.Frag) : R2 := rCatA K
theorem op_catQ {X : Cx} : OpR X (binaryOp .Add) (rCatQ X.K) := by
  unfold rCatQ
  exact op_catA
theorem slA_all {K : PySem.W.Frag} {H : Hp} {a : Addr} {xs : List V} {lo hi : Option Int} {Q : VK} (h : SqT K H a xs) (w : HT.sIx xs.length 0 lo = 0 ∧ HT.sIx xs.length xs.length hi = xs.length) (q : Q (.ref a) H) : rSlQ K (.ref a) lo hi H Q := by
  unfold rSlQ
  exact ⟨a, xs, rfl, h, fun _ => q, fun n => absurd w n⟩
theorem slA_cut {K : PySem.W.Frag} {H : Hp} {a : Addr} {xs : List V} {lo hi : Option Int} {Q : VK} (h : SqT K H a xs) (w : ¬ (HT.sIx xs.length 0 lo = 0 ∧ HT.sIx xs.length xs.length hi = xs.length)) (q : ∀ p, H p = none → Q (.ref p) (upd H p (.tup (cutV xs lo hi)))) : rSlQ K (.ref a) lo hi H Q := by
  unfold rSlQ
  exact ⟨a, xs, rfl, h, fun n => absurd n w, fun _ => q⟩
theorem catA_nil {K : PySem.W.Frag} {H : Hp} {a b : Addr} {ys : List V} {Q : VK} (h : SqT K H a []) (h2 : SqT K H b ys) (l : ys.length ≤ sizeLine) (q : Q (.ref b) H) : rCatQ K (.ref a) (.ref b) H Q := by
  unfold rCatQ
  exact ⟨a, b, [], ys, rfl, rfl, h, h2, by simpa using l, fun _ => q, fun n => absurd rfl n, fun n => absurd rfl n⟩
theorem catA_new {K : PySem.W.Frag} {H : Hp} {a b : Addr} {xs ys : List V} {Q : VK} (h : SqT K H a xs) (h2 : SqT K H b ys) (l : xs.length + ys.length ≤ sizeLine) (n1 : xs ≠ []) (n2 : ys ≠ []) (q : ∀ p, H p = none → Q (.ref p) (upd H p (.tup (xs ++ ys)))) : rCatQ K (.ref a) (.ref b) H Q := by
  unfold rCatQ
  exact ⟨a, b, xs, ys, rfl, rfl, h, h2, l, fun e => absurd e n1, fun _ e => absurd e n2, fun _ _ => q⟩
def top (i : Nat) : Stmt := PySem.Challenge.pw_endnever_k29_whole_meetings_and_runs.main.body.getD i (.Pass ⟨0, 0, 0, 0⟩)
abbrev s_L_mixed : Stmt := top 21
abbrev N_L_mixed : List Str := ["_law_cell", "_law_k", "_law_rest", "_law_number"]
theorem sc_L_mixed : FnScope ["_law_cell", "_law_k", "_law_rest", "_law_number"] ["_law_cell", "_law_k"] (defScope s_L_mixed) := ⟨rfl, rfl, rfl, by decide +kernel, rfl, by decide +kernel, by decide +kernel⟩
abbrev s_L_purse : Stmt := top 22
abbrev N_L_purse : List Str := ["_law_script", "_law_cells", "_law_number", "_law_k"]
theorem sc_L_purse : FnScope ["_law_script", "_law_cells", "_law_number", "_law_k"] ["_law_script"] (defScope s_L_purse) := ⟨rfl, rfl, rfl, by decide +kernel, rfl, by decide +kernel, by decide +kernel⟩
abbrev s_L_draw : Stmt := top 23
abbrev N_L_draw : List Str := ["_law_purse_here", "_law_out_of", "_law_drawn"]
theorem sc_L_draw : FnScope ["_law_purse_here", "_law_out_of", "_law_drawn"] ["_law_purse_here", "_law_out_of"] (defScope s_L_draw) := ⟨rfl, rfl, rfl, by decide +kernel, rfl, by decide +kernel, by decide +kernel⟩
abbrev s_L_machine : Stmt := top 24
abbrev N_L_machine : List Str := ["_law_purse_here", "_law_rows", "_law_signs", "_law_kind", "_law_found", "_law_k", "_law_row", "_law_j", "_law_entry"]
theorem sc_L_machine : FnScope ["_law_purse_here", "_law_rows", "_law_signs", "_law_kind", "_law_found", "_law_k", "_law_row", "_law_j", "_law_entry"] ["_law_purse_here"] (defScope s_L_machine) := ⟨rfl, rfl, rfl, by decide +kernel, rfl, by decide +kernel, by decide +kernel⟩
abbrev s_L_late : Stmt := top 26
abbrev N_L_late : List Str := ["_law_purse_here", "_law_found", "_law_kind", "_law_row"]
theorem sc_L_late : FnScope ["_law_purse_here", "_law_found", "_law_kind", "_law_row"] ["_law_purse_here"] (defScope s_L_late) := ⟨rfl, rfl, rfl, by decide +kernel, rfl, by decide +kernel, by decide +kernel⟩
abbrev s_L_led : Stmt := top 25
abbrev N_L_led : List Str := ["_law_purse_here", "_law_signs", "_law_way", "_law_long", "_law_rows", "_law_found", "_law_k", "_law_row", "_law_j"]
theorem sc_L_led : FnScope ["_law_purse_here", "_law_signs", "_law_way", "_law_long", "_law_rows", "_law_found", "_law_k", "_law_row", "_law_j"] ["_law_purse_here"] (defScope s_L_led) := ⟨rfl, rfl, rfl, by decide +kernel, rfl, by decide +kernel, by decide +kernel⟩
abbrev s_L_any : Stmt := top 27
abbrev N_L_any : List Str := ["_law_purse_here"]
theorem sc_L_any : FnScope ["_law_purse_here"] ["_law_purse_here"] (defScope s_L_any) := ⟨rfl, rfl, rfl, by decide +kernel, rfl, by decide +kernel, by decide +kernel⟩
abbrev s_is_entry : Stmt := top 6
abbrev N_is_entry : List Str := ["entry", "rows", "signs"]
theorem sc_is_entry : FnScope ["entry", "rows", "signs"] ["entry", "rows", "signs"] (defScope s_is_entry) := ⟨rfl, rfl, rfl, by decide +kernel, rfl, by decide +kernel, by decide +kernel⟩
abbrev s_is_machine : Stmt := top 7
abbrev N_is_machine : List Str := ["machine", "rows", "signs", "row", "entry"]
theorem sc_is_machine : FnScope ["machine", "rows", "signs", "row", "entry"] ["machine"] (defScope s_is_machine) := ⟨rfl, rfl, rfl, by decide +kernel, rfl, by decide +kernel, by decide +kernel⟩
abbrev s_must_machine : Stmt := top 8
abbrev N_must_machine : List Str := ["machine"]
theorem sc_must_machine : FnScope ["machine"] ["machine"] (defScope s_must_machine) := ⟨rfl, rfl, rfl, by decide +kernel, rfl, by decide +kernel, by decide +kernel⟩
abbrev s_Goer_init : Stmt := inClass (top 10) 0
abbrev N_Goer_init : List Str := ["self", "machine", "setup"]
theorem sc_Goer_init : FnScope ["self", "machine", "setup"] ["self", "machine", "setup"] (defScope s_Goer_init) := ⟨rfl, rfl, rfl, by decide +kernel, rfl, by decide +kernel, by decide +kernel⟩
abbrev s_Goer_entry : Stmt := inClass (top 10) 1
abbrev N_Goer_entry : List Str := ["self"]
theorem sc_Goer_entry : FnScope ["self"] ["self"] (defScope s_Goer_entry) := ⟨rfl, rfl, rfl, by decide +kernel, rfl, by decide +kernel, by decide +kernel⟩
abbrev s_Goer_step : Stmt := inClass (top 10) 2
abbrev N_Goer_step : List Str := ["self", "entry"]
theorem sc_Goer_step : FnScope ["self", "entry"] ["self"] (defScope s_Goer_step) := ⟨rfl, rfl, rfl, by decide +kernel, rfl, by decide +kernel, by decide +kernel⟩
abbrev s_met_entries : Stmt := top 12
abbrev N_met_entries : List Str := ["machine", "most", "goer", "found", "one"]
theorem sc_met_entries : FnScope ["machine", "most", "goer", "found", "one"] ["machine", "most"] (defScope s_met_entries) := ⟨rfl, rfl, rfl, by decide +kernel, rfl, by decide +kernel, by decide +kernel⟩
abbrev s_gone : Stmt := top 17
abbrev N_gone : List Str := ["machine", "most", "walk", "going"]
theorem sc_gone : FnScope ["machine", "most", "walk", "going"] ["machine", "most"] (defScope s_gone) := ⟨rfl, rfl, rfl, by decide +kernel, rfl, by decide +kernel, by decide +kernel⟩
abbrev s_told_strip : Stmt := top 9
abbrev N_told_strip : List Str := ["signs", "place", "sign"]
theorem sc_told_strip : FnScope ["signs", "place", "sign"] ["signs"] (defScope s_told_strip) := ⟨rfl, rfl, rfl, by decide +kernel, rfl, by decide +kernel, by decide +kernel⟩
abbrev s_Goer_setup : Stmt := inClass (top 10) 3
abbrev N_Goer_setup : List Str := ["self"]
theorem sc_Goer_setup : FnScope ["self"] ["self"] (defScope s_Goer_setup) := ⟨rfl, rfl, rfl, by decide +kernel, rfl, by decide +kernel, by decide +kernel⟩
abbrev s_run : Stmt := top 18
abbrev N_run : List Str := ["machine", "most", "walk", "ended"]
theorem sc_run : FnScope ["machine", "most", "walk", "ended"] ["machine", "most"] (defScope s_run) := ⟨rfl, rfl, rfl, by decide +kernel, rfl, by decide +kernel, by decide +kernel⟩
abbrev s_L_kept : Stmt := top 28
abbrev N_L_kept : List Str := ["_law_machine_here", "_law_entries", "_law_found", "_law_k", "_law_row", "_law_j"]
theorem sc_L_kept : FnScope ["_law_machine_here", "_law_entries", "_law_found", "_law_k", "_law_row", "_law_j"] ["_law_machine_here", "_law_entries"] (defScope s_L_kept) := ⟨rfl, rfl, rfl, by decide +kernel, rfl, by decide +kernel, by decide +kernel⟩
abbrev s_parts_from : Stmt := top 15
abbrev N_parts_from : List Str := ["one", "other", "most", "here", "there", "goes"]
theorem sc_parts_from : FnScope ["one", "other", "most", "here", "there", "goes"] ["one", "other", "most"] (defScope s_parts_from) := ⟨rfl, rfl, rfl, by decide +kernel, rfl, by decide +kernel, by decide +kernel⟩
abbrev s_visits : Stmt := top 13
abbrev N_visits : List Str := ["machine", "most", "goer", "found"]
theorem sc_visits : FnScope ["machine", "most", "goer", "found"] ["machine", "most"] (defScope s_visits) := ⟨rfl, rfl, rfl, by decide +kernel, rfl, by decide +kernel, by decide +kernel⟩
abbrev s_records : Stmt := top 14
abbrev N_records : List Str := ["machine", "most", "goer", "least", "greatest", "found"]
theorem sc_records : FnScope ["machine", "most", "goer", "least", "greatest", "found"] ["machine", "most"] (defScope s_records) := ⟨rfl, rfl, rfl, by decide +kernel, rfl, by decide +kernel, by decide +kernel⟩
abbrev s_touched : Stmt := top 19
abbrev N_touched : List Str := ["machine", "most", "walk", "least", "greatest"]
theorem sc_touched : FnScope ["machine", "most", "walk", "least", "greatest"] ["machine", "most"] (defScope s_touched) := ⟨rfl, rfl, rfl, by decide +kernel, rfl, by decide +kernel, by decide +kernel⟩
abbrev s_L_places : Stmt := top 29
abbrev N_L_places : List Str := ["_law_machine_here", "_law_most", "_law_far", "_law_counts", "_law_some", "_law_ends", "_law_place", "_law_count", "_law_places_here", "_law_moment"]
theorem sc_L_places : FnScope ["_law_machine_here", "_law_most", "_law_far", "_law_counts", "_law_some", "_law_ends", "_law_place", "_law_count", "_law_places_here", "_law_moment"] ["_law_machine_here", "_law_most", "_law_far"] (defScope s_L_places) := ⟨rfl, rfl, rfl, by decide +kernel, rfl, by decide +kernel, by decide +kernel⟩
abbrev s_law : Stmt := top 30
abbrev N_law : List Str := ["_law_script", "_law_purse_here", "_law_machine_here", "_law_most", "_law_entries", "_law_found", "_law_less_one", "_law_at", "_law_without", "_law_told", "_law_same"]
theorem sc_law : FnScope ["_law_script", "_law_purse_here", "_law_machine_here", "_law_most", "_law_entries", "_law_found", "_law_less_one", "_law_at", "_law_without", "_law_told", "_law_same"] ["_law_script"] (defScope s_law) := ⟨rfl, rfl, rfl, by decide +kernel, rfl, by decide +kernel, by decide +kernel⟩
/-- what the top has written: where each def stands, what the names hold -/
structure Tx (K : PySem.W.Frag) (mg : Str → Option Value) where
  a_L_mixed : Addr
  fd_L_mixed : FuncData
  F_L_mixed : Fun K "_law_mixed" "_law_mixed" s_L_mixed a_L_mixed fd_L_mixed
  b_L_mixed : Binds K fd_L_mixed ["_law_cell", "_law_k"] []
  m_L_mixed : mg "_law_mixed" = some (.ref a_L_mixed)
  a_L_purse : Addr
  fd_L_purse : FuncData
  F_L_purse : Fun K "_law_purse" "_law_purse" s_L_purse a_L_purse fd_L_purse
  b_L_purse : Binds K fd_L_purse ["_law_script"] []
  m_L_purse : mg "_law_purse" = some (.ref a_L_purse)
  a_L_draw : Addr
  fd_L_draw : FuncData
  F_L_draw : Fun K "_law_draw" "_law_draw" s_L_draw a_L_draw fd_L_draw
  b_L_draw : Binds K fd_L_draw ["_law_purse_here", "_law_out_of"] []
  m_L_draw : mg "_law_draw" = some (.ref a_L_draw)
  a_L_machine : Addr
  fd_L_machine : FuncData
  F_L_machine : Fun K "_law_machine" "_law_machine" s_L_machine a_L_machine fd_L_machine
  b_L_machine : Binds K fd_L_machine ["_law_purse_here"] []
  m_L_machine : mg "_law_machine" = some (.ref a_L_machine)
  a_L_late : Addr
  fd_L_late : FuncData
  F_L_late : Fun K "_law_late" "_law_late" s_L_late a_L_late fd_L_late
  b_L_late : Binds K fd_L_late ["_law_purse_here"] []
  m_L_late : mg "_law_late" = some (.ref a_L_late)
  a_L_led : Addr
  fd_L_led : FuncData
  F_L_led : Fun K "_law_led" "_law_led" s_L_led a_L_led fd_L_led
  b_L_led : Binds K fd_L_led ["_law_purse_here"] []
  m_L_led : mg "_law_led" = some (.ref a_L_led)
  a_L_any : Addr
  fd_L_any : FuncData
  F_L_any : Fun K "_law_any" "_law_any" s_L_any a_L_any fd_L_any
  b_L_any : Binds K fd_L_any ["_law_purse_here"] []
  m_L_any : mg "_law_any" = some (.ref a_L_any)
  a_is_entry : Addr
  fd_is_entry : FuncData
  F_is_entry : Fun K "is_entry" "is_entry" s_is_entry a_is_entry fd_is_entry
  b_is_entry : Binds K fd_is_entry ["entry", "rows", "signs"] []
  m_is_entry : mg "is_entry" = some (.ref a_is_entry)
  a_is_machine : Addr
  fd_is_machine : FuncData
  F_is_machine : Fun K "is_machine" "is_machine" s_is_machine a_is_machine fd_is_machine
  b_is_machine : Binds K fd_is_machine ["machine"] []
  m_is_machine : mg "is_machine" = some (.ref a_is_machine)
  a_must_machine : Addr
  fd_must_machine : FuncData
  F_must_machine : Fun K "must_machine" "must_machine" s_must_machine a_must_machine fd_must_machine
  b_must_machine : Binds K fd_must_machine ["machine"] []
  m_must_machine : mg "must_machine" = some (.ref a_must_machine)
  a_Goer_init : Addr
  fd_Goer_init : FuncData
  F_Goer_init : Fun K "__init__" "Goer.__init__" s_Goer_init a_Goer_init fd_Goer_init
  b_Goer_init : Binds K fd_Goer_init ["self", "machine", "setup"] []
  a_Goer_entry : Addr
  fd_Goer_entry : FuncData
  F_Goer_entry : Fun K "entry" "Goer.entry" s_Goer_entry a_Goer_entry fd_Goer_entry
  b_Goer_entry : Binds K fd_Goer_entry ["self"] []
  a_Goer_step : Addr
  fd_Goer_step : FuncData
  F_Goer_step : Fun K "step" "Goer.step" s_Goer_step a_Goer_step fd_Goer_step
  b_Goer_step : Binds K fd_Goer_step ["self"] []
  a_met_entries : Addr
  fd_met_entries : FuncData
  F_met_entries : Fun K "met_entries" "met_entries" s_met_entries a_met_entries fd_met_entries
  b_met_entries : Binds K fd_met_entries ["machine", "most"] []
  m_met_entries : mg "met_entries" = some (.ref a_met_entries)
  a_gone : Addr
  fd_gone : FuncData
  F_gone : Fun K "gone" "gone" s_gone a_gone fd_gone
  b_gone : Binds K fd_gone ["machine", "most"] []
  m_gone : mg "gone" = some (.ref a_gone)
  a_told_strip : Addr
  fd_told_strip : FuncData
  F_told_strip : Fun K "told_strip" "told_strip" s_told_strip a_told_strip fd_told_strip
  b_told_strip : Binds K fd_told_strip ["signs"] []
  m_told_strip : mg "told_strip" = some (.ref a_told_strip)
  a_Goer_setup : Addr
  fd_Goer_setup : FuncData
  F_Goer_setup : Fun K "setup" "Goer.setup" s_Goer_setup a_Goer_setup fd_Goer_setup
  b_Goer_setup : Binds K fd_Goer_setup ["self"] []
  a_run : Addr
  fd_run : FuncData
  F_run : Fun K "run" "run" s_run a_run fd_run
  b_run : Binds K fd_run ["machine", "most"] []
  m_run : mg "run" = some (.ref a_run)
  a_L_kept : Addr
  fd_L_kept : FuncData
  F_L_kept : Fun K "_law_kept" "_law_kept" s_L_kept a_L_kept fd_L_kept
  b_L_kept : Binds K fd_L_kept ["_law_machine_here", "_law_entries"] []
  m_L_kept : mg "_law_kept" = some (.ref a_L_kept)
  a_parts_from : Addr
  fd_parts_from : FuncData
  F_parts_from : Fun K "parts_from" "parts_from" s_parts_from a_parts_from fd_parts_from
  b_parts_from : Binds K fd_parts_from ["one", "other", "most"] []
  m_parts_from : mg "parts_from" = some (.ref a_parts_from)
  a_visits : Addr
  fd_visits : FuncData
  F_visits : Fun K "visits" "visits" s_visits a_visits fd_visits
  b_visits : Binds K fd_visits ["machine", "most"] []
  m_visits : mg "visits" = some (.ref a_visits)
  a_records : Addr
  fd_records : FuncData
  F_records : Fun K "records" "records" s_records a_records fd_records
  b_records : Binds K fd_records ["machine", "most"] []
  m_records : mg "records" = some (.ref a_records)
  a_touched : Addr
  fd_touched : FuncData
  F_touched : Fun K "touched" "touched" s_touched a_touched fd_touched
  b_touched : Binds K fd_touched ["machine", "most"] []
  m_touched : mg "touched" = some (.ref a_touched)
  a_L_places : Addr
  fd_L_places : FuncData
  F_L_places : Fun K "_law_places" "_law_places" s_L_places a_L_places fd_L_places
  b_L_places : Binds K fd_L_places ["_law_machine_here", "_law_most", "_law_far"] []
  m_L_places : mg "_law_places" = some (.ref a_L_places)
  a_law : Addr
  fd_law : FuncData
  F_law : Fun K "law" "law" s_law a_law fd_law
  b_law : Binds K fd_law ["_law_script"] []
  m_law : mg "law" = some (.ref a_law)
  C_NoMachine : Addr
  m_NoMachine : mg "NoMachine" = some (.ref C_NoMachine)
  C_Goer : Addr
  m_Goer : mg "Goer" = some (.ref C_Goer)
  cl_Goer : Cls K C_Goer
  M_Goer : Mk K C_Goer a_Goer_init
  M_Goer_entry : Meth K C_Goer "entry" a_Goer_entry
  M_Goer_step : Meth K C_Goer "step" a_Goer_step
  M_Goer_setup : Meth K C_Goer "setup" a_Goer_setup
  nA_Goer_table : NoAttr K C_Goer "table"
  nA_Goer_row : NoAttr K C_Goer "row"
  nA_Goer_spot : NoAttr K C_Goer "spot"
  nA_Goer_signs : NoAttr K C_Goer "signs"
  nA_Goer_steps : NoAttr K C_Goer "steps"
  tk_MOST_ROWS : Tok
  m_MOST_ROWS : mg "MOST_ROWS" = some (.int 4 tk_MOST_ROWS)
  tk_MOST_SIGNS : Tok
  m_MOST_SIGNS : mg "MOST_SIGNS" = some (.int 4 tk_MOST_SIGNS)
  n_range : mg "range" = none
  n_len : mg "len" = none
  n_abs : mg "abs" = none
  n_all : mg "all" = none
  n_dict : mg "dict" = none
  n_sorted : mg "sorted" = none
  n_int : mg "int" = none
  n_max : mg "max" = none
  n_min : mg "min" = none
  n_list : mg "list" = none
  n_sum : mg "sum" = none
  n_set : mg "set" = none
/-! ### the fields of a Goer -/
theorem ne_Goer_table_row : ¬ (("table" : Str) = "row") := by decide +kernel
theorem ne_Goer_table_spot : ¬ (("table" : Str) = "spot") := by decide +kernel
theorem ne_Goer_table_signs : ¬ (("table" : Str) = "signs") := by decide +kernel
theorem ne_Goer_table_steps : ¬ (("table" : Str) = "steps") := by decide +kernel
theorem ne_Goer_row_table : ¬ (("row" : Str) = "table") := by decide +kernel
theorem ne_Goer_row_spot : ¬ (("row" : Str) = "spot") := by decide +kernel
theorem ne_Goer_row_signs : ¬ (("row" : Str) = "signs") := by decide +kernel
theorem ne_Goer_row_steps : ¬ (("row" : Str) = "steps") := by decide +kernel
theorem ne_Goer_spot_table : ¬ (("spot" : Str) = "table") := by decide +kernel
theorem ne_Goer_spot_row : ¬ (("spot" : Str) = "row") := by decide +kernel
theorem ne_Goer_spot_signs : ¬ (("spot" : Str) = "signs") := by decide +kernel
theorem ne_Goer_spot_steps : ¬ (("spot" : Str) = "steps") := by decide +kernel
theorem ne_Goer_signs_table : ¬ (("signs" : Str) = "table") := by decide +kernel
theorem ne_Goer_signs_row : ¬ (("signs" : Str) = "row") := by decide +kernel
theorem ne_Goer_signs_spot : ¬ (("signs" : Str) = "spot") := by decide +kernel
theorem ne_Goer_signs_steps : ¬ (("signs" : Str) = "steps") := by decide +kernel
theorem ne_Goer_steps_table : ¬ (("steps" : Str) = "table") := by decide +kernel
theorem ne_Goer_steps_row : ¬ (("steps" : Str) = "row") := by decide +kernel
theorem ne_Goer_steps_spot : ¬ (("steps" : Str) = "spot") := by decide +kernel
theorem ne_Goer_steps_signs : ¬ (("steps" : Str) = "signs") := by decide +kernel
def Goer_F (v0 v1 v2 v3 v4 : V) : List (Str × V) := [("table", v0), ("row", v1), ("spot", v2), ("signs", v3), ("steps", v4)]
theorem Goer_mk0 (v0 : V) : putF "table" v0 ([] : List (Str × V)) = ([("table", v0)] : List (Str × V)) := by
  simp only [putF]
theorem Goer_mk1 (v0 v1 : V) : putF "row" v1 ([("table", v0)] : List (Str × V)) = ([("table", v0), ("row", v1)] : List (Str × V)) := by
  simp only [putF, if_neg ne_Goer_table_row]
theorem Goer_mk2 (v0 v1 v2 : V) : putF "spot" v2 ([("table", v0), ("row", v1)] : List (Str × V)) = ([("table", v0), ("row", v1), ("spot", v2)] : List (Str × V)) := by
  simp only [putF, if_neg ne_Goer_table_spot, if_neg ne_Goer_row_spot]
theorem Goer_mk3 (v0 v1 v2 v3 : V) : putF "signs" v3 ([("table", v0), ("row", v1), ("spot", v2)] : List (Str × V)) = ([("table", v0), ("row", v1), ("spot", v2), ("signs", v3)] : List (Str × V)) := by
  simp only [putF, if_neg ne_Goer_table_signs, if_neg ne_Goer_row_signs, if_neg ne_Goer_spot_signs]
theorem Goer_mk4 (v0 v1 v2 v3 v4 : V) : putF "steps" v4 ([("table", v0), ("row", v1), ("spot", v2), ("signs", v3)] : List (Str × V)) = ([("table", v0), ("row", v1), ("spot", v2), ("signs", v3), ("steps", v4)] : List (Str × V)) := by
  simp only [putF, if_neg ne_Goer_table_steps, if_neg ne_Goer_row_steps, if_neg ne_Goer_spot_steps, if_neg ne_Goer_signs_steps]
theorem Goer_get_table {v0 v1 v2 v3 v4 : V} : (Goer_F v0 v1 v2 v3 v4).lookup ("table" : Str) = some v0 := by
  have e : Goer_F v0 v1 v2 v3 v4 = putF "table" v0 (Goer_F v0 v1 v2 v3 v4) := by
    unfold Goer_F
    simp only [putF, if_true]
  rw [e, lookup_putF, if_pos rfl]
theorem Goer_put_table {v0 v1 v2 v3 v4 y : V} : putF "table" y (Goer_F v0 v1 v2 v3 v4) = Goer_F y v1 v2 v3 v4 := by
  unfold Goer_F
  simp only [putF, if_true]
theorem Goer_get_row {v0 v1 v2 v3 v4 : V} : (Goer_F v0 v1 v2 v3 v4).lookup ("row" : Str) = some v1 := by
  have e : Goer_F v0 v1 v2 v3 v4 = putF "row" v1 (Goer_F v0 v1 v2 v3 v4) := by
    unfold Goer_F
    simp only [putF, if_neg ne_Goer_table_row, if_true]
  rw [e, lookup_putF, if_pos rfl]
theorem Goer_put_row {v0 v1 v2 v3 v4 y : V} : putF "row" y (Goer_F v0 v1 v2 v3 v4) = Goer_F v0 y v2 v3 v4 := by
  unfold Goer_F
  simp only [putF, if_neg ne_Goer_table_row, if_true]
theorem Goer_get_spot {v0 v1 v2 v3 v4 : V} : (Goer_F v0 v1 v2 v3 v4).lookup ("spot" : Str) = some v2 := by
  have e : Goer_F v0 v1 v2 v3 v4 = putF "spot" v2 (Goer_F v0 v1 v2 v3 v4) := by
    unfold Goer_F
    simp only [putF, if_neg ne_Goer_table_spot, if_neg ne_Goer_row_spot, if_true]
  rw [e, lookup_putF, if_pos rfl]
theorem Goer_put_spot {v0 v1 v2 v3 v4 y : V} : putF "spot" y (Goer_F v0 v1 v2 v3 v4) = Goer_F v0 v1 y v3 v4 := by
  unfold Goer_F
  simp only [putF, if_neg ne_Goer_table_spot, if_neg ne_Goer_row_spot, if_true]
theorem Goer_get_signs {v0 v1 v2 v3 v4 : V} : (Goer_F v0 v1 v2 v3 v4).lookup ("signs" : Str) = some v3 := by
  have e : Goer_F v0 v1 v2 v3 v4 = putF "signs" v3 (Goer_F v0 v1 v2 v3 v4) := by
    unfold Goer_F
    simp only [putF, if_neg ne_Goer_table_signs, if_neg ne_Goer_row_signs, if_neg ne_Goer_spot_signs, if_true]
  rw [e, lookup_putF, if_pos rfl]
theorem Goer_put_signs {v0 v1 v2 v3 v4 y : V} : putF "signs" y (Goer_F v0 v1 v2 v3 v4) = Goer_F v0 v1 v2 y v4 := by
  unfold Goer_F
  simp only [putF, if_neg ne_Goer_table_signs, if_neg ne_Goer_row_signs, if_neg ne_Goer_spot_signs, if_true]
theorem Goer_get_steps {v0 v1 v2 v3 v4 : V} : (Goer_F v0 v1 v2 v3 v4).lookup ("steps" : Str) = some v4 := by
  have e : Goer_F v0 v1 v2 v3 v4 = putF "steps" v4 (Goer_F v0 v1 v2 v3 v4) := by
    unfold Goer_F
    simp only [putF, if_neg ne_Goer_table_steps, if_neg ne_Goer_row_steps, if_neg ne_Goer_spot_steps, if_neg ne_Goer_signs_steps, if_true]
  rw [e, lookup_putF, if_pos rfl]
theorem Goer_put_steps {v0 v1 v2 v3 v4 y : V} : putF "steps" y (Goer_F v0 v1 v2 v3 v4) = Goer_F v0 v1 v2 v3 y := by
  unfold Goer_F
  simp only [putF, if_neg ne_Goer_table_steps, if_neg ne_Goer_row_steps, if_neg ne_Goer_spot_steps, if_neg ne_Goer_signs_steps, if_true]
theorem Goer_no {v0 v1 v2 v3 v4 : V} {m : Str} (h0 : ¬ m = "table") (h1 : ¬ m = "row") (h2 : ¬ m = "spot") (h3 : ¬ m = "signs") (h4 : ¬ m = "steps") : (Goer_F v0 v1 v2 v3 v4).lookup m = none := by
  have h : ∀ (f : Str) (v : V) (r : List (Str × V)), ¬ m = f → r.lookup m = none → ((f, v) :: r).lookup m = none := fun f v r n q => by
    rw [List.lookup_cons, beq_eq_false_iff_ne.mpr n]; exact q
  unfold Goer_F
  exact h _ _ _ h0 (h _ _ _ h1 (h _ _ _ h2 (h _ _ _ h3 (h _ _ _ h4 rfl))))
theorem Goer_few {v0 v1 v2 v3 v4 : V} : (Goer_F v0 v1 v2 v3 v4).length < 1000 := by show 5 < 1000; decide
section
variable {P : Program} {w : World} {K : PySem.W.Frag} {mg : Str → Option Value} {base : Heap}
/-! ### draws -/
def sp_L_mixed : Sp := fun vs H Q _ => ∃ c k : Int, vs = [.int c, .int k] ∧ 0 ≤ k ∧ k < 1000 ∧ ∀ n : Int, 0 ≤ n → n < 2147483587 → Q (.int n) H
theorem ok_L_mixed (t : Tx K mg) : FnOk P w K mg base CX0 1 t.a_L_mixed t.fd_L_mixed ["_law_cell", "_law_k"] sp_L_mixed := by
  refine t.F_L_mixed.ok sc_L_mixed (fun vs H Q E h => ?_) (fun cdv A outer s H vs Q E hr h => ?_)
  · obtain ⟨c, k, rfl, _⟩ := h
    rfl
  · obtain ⟨c, k, rfl, k0, k1, q⟩ := h
    refine ⟨_, (pss_cons (ps_set (i := 2) sc_L_mixed.nd rfl (by first | exact Or.inl rfl | exact Or.inr rfl) (pe_op op_mod (pv 0) (pe_op op_pow pe_int pe_int)))
      (pss_cons (ps_set (i := 3) sc_L_mixed.nd rfl (by first | exact Or.inl rfl | exact Or.inr rfl) (pe_op op_mod (pe_op op_mul (pe_op op_add (pe_op op_add (pe_op op_add (pe_op op_mul (pv 2) (pv 2)) (pe_op op_mul pe_int (pv 2))) (pe_op op_mul pe_int (pv 1))) pe_int) pe_int) pe_int))
      (pss_one (ps_ret (pe_op op_mod (pe_op op_add (pe_op op_mul (pv 3) (pv 3)) pe_int) pe_int))))), ?_⟩
    have e15 : (10 : Int) ^ (15 : Int).toNat = 1000000000000000 := by decide
    refine ⟨_, rfl, _, _, rfl, rfl, ⟨by decide, by decide, by decide⟩, _, _, rfl, rfl, (by show (0 : Int) < 10 ^ (15 : Int).toNat; decide), ?_⟩
    rw [e15]
    have h0 : (0 : Int) ≤ c % 1000000000000000 := Int.emod_nonneg _ (by decide)
    have h1 : c % 1000000000000000 < 1000000000000000 := Int.emod_lt_of_pos _ (by decide)
    generalize c % 1000000000000000 = r at h0 h1
    refine ⟨_, rfl, _, rfl, _, _, rfl, rfl, .inl ⟨by omega, by omega⟩, _, rfl, _, _, rfl, rfl, .inl ⟨by decide, by decide⟩, _, _, rfl, rfl, _, rfl, _, _, rfl, rfl, .inl ⟨by decide, by decide⟩, _, _, rfl, rfl, _, _, rfl, rfl,
      _, _, rfl, rfl, .inr ⟨by decide, by decide⟩, _, _, rfl, rfl, (by show (0 : Int) < 2147483629; decide), ?_⟩
    have g0 := Int.emod_nonneg ((r * r + 3 * r + 7919 * k + 1) * 48271) (show (2147483629 : Int) ≠ 0 by decide)
    have g1 := Int.emod_lt_of_pos ((r * r + 3 * r + 7919 * k + 1) * 48271) (show (0 : Int) < 2147483629 by decide)
    generalize (r * r + 3 * r + 7919 * k + 1) * 48271 % 2147483629 = n at g0 g1
    refine ⟨_, rfl, _, rfl, _, _, rfl, rfl, .inl ⟨by omega, by omega⟩, _, _, rfl, rfl, _, _, rfl, rfl, (by show (0 : Int) < 2147483587; decide), ?_⟩
    exact q _ (Int.emod_nonneg _ (by decide)) (Int.emod_lt_of_pos _ (by decide))
/-- the purse: two numbers that aren't below 0 -/
def PurseO (a b : Int) : HO := .lst [.int a, .int b]
def sp_L_purse (K : PySem.W.Frag) : Sp := fun vs H Q _ => ∃ (l : Addr) (ns : List Int), vs = [.ref l] ∧ SqL K H l (ns.map V.int) ∧ ns.length ≤ 63 ∧
  ∀ (a b : Int) (p : Addr) (H' : Hp), 0 ≤ a → 0 ≤ b → Same H H' → H p = none → H' p = some (PurseO a b) → Q (.ref p) H'
theorem ok_L_purse (t : Tx K mg) : FnOk P w K mg base CX0 2 t.a_L_purse t.fd_L_purse ["_law_script"] (sp_L_purse K) := by
  refine t.F_L_purse.ok sc_L_purse (fun vs H Q E h => ?_) (fun cdv A outer s H vs Q E hr h => ?_)
  · obtain ⟨l, ns, rfl, _⟩ := h
    rfl
  · obtain ⟨l, ns, rfl, hS, hn, q⟩ := h
    refine ⟨_, (pss_cons (ps_set (i := 1) sc_L_purse.nd rfl (by first | exact Or.inl rfl | exact Or.inr rfl) (pe_op op_cat (pe_slice sl_list (pv 0) po_none (po_some pe_int)) (pe_lst (pa_cons pe_int pa_nil))))
      (pss_cons (ps_set (i := 2) sc_L_purse.nd rfl (by first | exact Or.inl rfl | exact Or.inr rfl) pe_int)
      (pss_cons (ps_for PassesOwn.never rfl (pi_range1 (by rfl) t.n_range (pa_cons pe_int pa_nil)) (pg_name (i := 3) sc_L_purse.nd rfl (by first | exact Or.inl rfl | exact Or.inr rfl)) (pss_one (ps_set (i := 2) sc_L_purse.nd rfl (by first | exact Or.inl rfl | exact Or.inr rfl) (pe_op op_add (pe_op op_mul (pv 2) pe_int) (pe_call (ok_L_mixed t) (hr.mono (by decide)) (by rfl) t.m_L_mixed t.F_L_mixed.kp t.b_L_mixed .nil pass0 (pa_cons (pe_ix ix_list (pv 1) (pe_op op_mod (pv 3) (pe_callB (id := "len") call_lenQ (by rfl) t.n_len (by decide +kernel) (pa_cons (pv 1) pa_nil))) (fun _ _ => rfl)) (pa_cons (pv 3) pa_nil)))))))
      (pss_cons (ps_if (pt_cmpR op_ge (pe_callB (id := "abs") call_abs (by rfl) t.n_abs (by decide +kernel) (pa_cons (pe_ix ix_list (pv 1) pe_int (fun _ _ => rfl)) pa_nil)) (pe_op op_pow pe_int pe_int) (nomark _)) (pss_one (ps_ret (pe_lst (pa_cons (pe_callB (id := "abs") call_abs (by rfl) t.n_abs (by decide +kernel) (pa_cons (pe_ix ix_list (pv 1) pe_int (fun _ _ => rfl)) pa_nil)) (pa_cons (pv 2) pa_nil))))) pss_nil)
      (pss_one (ps_ret (pe_lst (pa_cons (pv 2) (pa_cons (pv 2) pa_nil))))))))), ?_⟩
    refine ⟨_, rfl, _, rfl, l, _, rfl, hS, fun p np => ?_⟩
    rw [cut_63 hn]
    have e0 : ([V.int 0] : List V) = [(0 : Int)].map V.int := rfl
    refine ⟨by show 1 ≤ sizeLine; decide, fun p2 np2 => ⟨p, p2, _, _, rfl, rfl, (by rw [upd_ne (ne_of_none upd_same np2)]; exact upd_same), upd_same, (by show _ + 1 ≤ _; rw [List.length_map]; exact Nat.le_trans (Nat.add_le_add_right hn 1) (by decide)), fun p3 np3 => ?_⟩⟩
    rw [e0, ← List.map_append]
    have s3 : Same H (upd (upd (upd H p (.lst (ns.map V.int))) p2 (.lst ([(0 : Int)].map V.int))) p3 (.lst ((ns ++ [0]).map V.int))) := sm_new (sm_new (sm_new (Same.refl H) np) np2) np3
    have hl : 0 < (ns ++ [0]).length := by simp
    generalize ec : ns ++ [0] = cs at s3 hl
    have h3 : (upd (upd (upd H p (.lst (ns.map V.int))) p2 (.lst ([(0 : Int)].map V.int))) p3 (.lst (cs.map V.int))) p3 = some (.lst (cs.map V.int)) := upd_same
    generalize upd (upd (upd H p (.lst (ns.map V.int))) p2 (.lst ([(0 : Int)].map V.int))) p3 (.lst (cs.map V.int)) = H3 at s3 h3
    refine ⟨64, rfl, by decide, by decide, for_range (lo := 0) (n := 64) (fun i σ H2 => ∃ (n : Int) (v : Option V), σ = [some (.ref l), some (.ref p3), some (.int n), v] ∧ H2 = H3 ∧ 0 ≤ n) ⟨1, none, rfl, rfl, by decide⟩ ?_ ?_⟩
    · rintro i σ H2 hi ⟨n, v, rfl, rfl, hn0⟩
      refine ⟨_, rfl, _, _, rfl, rfl, .inr ⟨by decide, by decide⟩, ?_⟩
      have hm := Int.emod_nonneg (0 + (i : Int)) (show ((cs.map V.int).length : Int) ≠ 0 by rw [List.length_map]; omega)
      have hm1 := Int.emod_lt_of_pos (0 + (i : Int)) (show (0 : Int) < ((cs.map V.int).length : Int) by rw [List.length_map]; omega)
      have hj : (((0 + (i : Int)) % ((cs.map V.int).length : Int)).toNat : Int) = (0 + (i : Int)) % ((cs.map V.int).length : Int) := Int.toNat_of_nonneg hm
      have hj1 : ((0 + (i : Int)) % ((cs.map V.int).length : Int)).toNat < cs.length := by rw [List.length_map] at hm1 ⊢; omega
      refine ⟨_, rfl, _, rfl, _, rfl, p3, _, rfl, .inl (SqL.of h3), _, _, rfl, rfl, (by rw [List.length_map]; omega), p3, _, _, _, rfl, rfl, SqL.of h3, at_of hj.symm (by rw [List.getElem?_map, List.getElem?_eq_getElem hj1]; rfl), ?_⟩
      refine ⟨_, rfl, _, _, rfl, by omega, by omega, fun m m0 m1 => ⟨_, _, rfl, rfl, ?_⟩⟩
      exact ⟨_, _, rfl, rfl, by omega⟩
    · rintro σ H2 ⟨n, v, rfl, rfl, hn0⟩
      have h0 : (cs.map V.int)[0]? = some (.int (cs[0])) := by rw [List.getElem?_map, List.getElem?_eq_getElem hl]; rfl
      refine ⟨_, rfl, p3, _, _, _, rfl, rfl, SqL.of h3, atI_nat (j := 0) h0, _, rfl, _, _, rfl, rfl, ⟨by decide, by decide, by decide⟩, _, _, rfl, rfl, _, rfl, ?_⟩
      refine ite2 (fun c => ?_) (fun c => ?_)
      · refine ⟨_, rfl, p3, _, _, _, rfl, rfl, SqL.of h3, atI_nat (j := 0) h0, _, rfl, _, rfl, by show 2 ≤ sizeLine; decide, fun q0 nq => ?_⟩
        exact q _ _ q0 _ (by split <;> omega) hn0 (sm_new s3 nq) (s3.free nq) upd_same
      · refine ⟨_, rfl, _, rfl, by show 2 ≤ sizeLine; decide, fun q0 nq => ?_⟩
        exact q _ _ q0 _ hn0 hn0 (sm_new s3 nq) (s3.free nq) upd_same
def sp_L_draw : Sp := fun vs H Q _ => ∃ (p : Addr) (a b n : Int), vs = [.ref p, .int n] ∧ H p = some (PurseO a b) ∧ 0 ≤ a ∧ 0 ≤ b ∧ 0 < n ∧ n < 1267650600228229401496703205376 ∧
  ∀ d a' b' : Int, 0 ≤ d → d < n → 0 ≤ a' → 0 ≤ b' → Q (.int d) (upd H p (PurseO a' b'))
theorem ok_L_draw (t : Tx K mg) : FnOk P w K mg base CX0 1 t.a_L_draw t.fd_L_draw ["_law_purse_here", "_law_out_of"] sp_L_draw := by
  refine t.F_L_draw.ok sc_L_draw (fun vs H Q E h => ?_) (fun cdv A outer s H vs Q E hr h => ?_)
  · obtain ⟨p, a, b, n, rfl, _⟩ := h
    rfl
  · obtain ⟨p, a, b, n, rfl, hp, ha, hb, n0, n1, q⟩ := h
    refine ⟨_, (pss_cons (ps_if (pt_cmpR op_eq (pe_ix ix_list (pv 0) pe_int (fun _ _ => rfl)) pe_int (nomark _)) (pss_one (ps_asg (pe_ix ix_list (pv 0) pe_int (fun _ _ => rfl)) (pg_sub (pv 0) pe_int set_list))) pss_nil)
      (pss_cons (ps_set (i := 2) sc_L_draw.nd rfl (by first | exact Or.inl rfl | exact Or.inr rfl) (pe_op op_mod (pe_ix ix_list (pv 0) pe_int (fun _ _ => rfl)) (pv 1)))
      (pss_cons (ps_asg (pe_op op_fdivW (pe_ix ix_list (pv 0) pe_int (fun _ _ => rfl)) (pv 1)) (pg_sub (pv 0) pe_int set_list))
      (pss_one (ps_ret (pv 2)))))), ?_⟩
    refine ⟨_, rfl, p, _, _, _, rfl, rfl, SqL.of hp, atI_nat (j := 0) rfl, rfl, _, rfl, ?_⟩
    refine ite2 (fun c => ?_) (fun c => ?_)
    · refine ⟨_, rfl, p, _, _, _, rfl, rfl, SqL.of hp, atI_nat (j := 1) rfl, _, rfl, p, _, _, 0, rfl, rfl, hp, rfl, ?_⟩
      refine ⟨_, rfl, p, _, _, _, rfl, rfl, SqL.of upd_same, atI_nat (j := 0) rfl, _, rfl, _, _, rfl, rfl, n0, ?_⟩
      refine ⟨_, rfl, p, _, _, _, rfl, rfl, SqL.of upd_same, atI_nat (j := 0) rfl, _, rfl, _, _, rfl, rfl, wide_div n0 (b := 100) (by have e : (2 : Nat) ^ 100 = 1267650600228229401496703205376 := rfl; rw [e]; omega) (by decide) (by decide), _, rfl, p, _, _, 0, rfl, rfl, upd_same, rfl, _, rfl, ?_⟩
      rw [upd_upd]
      exact q _ _ _ (Int.emod_nonneg _ (by omega)) (Int.emod_lt_of_pos _ n0) (Int.ediv_nonneg hb (by omega)) hb
    · refine ⟨_, rfl, p, _, _, _, rfl, rfl, SqL.of hp, atI_nat (j := 0) rfl, _, rfl, _, _, rfl, rfl, n0, ?_⟩
      refine ⟨_, rfl, p, _, _, _, rfl, rfl, SqL.of hp, atI_nat (j := 0) rfl, _, rfl, _, _, rfl, rfl, wide_div n0 (b := 100) (by have e : (2 : Nat) ^ 100 = 1267650600228229401496703205376 := rfl; rw [e]; omega) (by decide) (by decide), _, rfl, p, _, _, 0, rfl, rfl, hp, rfl, _, rfl, ?_⟩
      exact q _ _ _ (Int.emod_nonneg _ (by omega)) (Int.emod_lt_of_pos _ n0) (Int.ediv_nonneg ha (by omega)) hb
/-! ### machines that are machines -/
structure EOk (R S : Nat) (e : Ent) : Prop where
  ok : ∀ p w r, e = .go p w r → (0 ≤ p ∧ p < S) ∧ (w = -1 ∨ w = 1) ∧ 0 ≤ r ∧ r < R
structure MOk (M : Mach) (R S : Nat) : Prop where
  r1 : 1 ≤ R
  r4 : R ≤ 4
  s2 : 2 ≤ S
  s4 : S ≤ 4
  len : M.length = R
  row : ∀ r ∈ M, r.length = S
  ent : ∀ r ∈ M, ∀ e ∈ r, EOk R S e
def sp_is_entry : Sp := fun vs H Q _ => ∃ (F : Hp) (v : V) (e : Ent) (R S : Nat), vs = [v, .int R, .int S] ∧ Same F H ∧ Is F v e ∧ EOk R S e ∧ ∀ H', Gr mu0 F H F H' → Q (.bl true) H'
theorem ok_is_entry (t : Tx K mg) : FnOk P w K mg base CX0 1 t.a_is_entry t.fd_is_entry ["entry", "rows", "signs"] sp_is_entry := by
  refine t.F_is_entry.ok sc_is_entry (fun vs H Q E h => ?_) (fun cdv A outer s H vs Q E hr h => ?_)
  · obtain ⟨F, v, e, R, S, rfl, _⟩ := h
    rfl
  · obtain ⟨F, v, e, R, S, rfl, sF, hv, he, q⟩ := h
    refine ⟨_, (pss_cons (ps_if (pt_cmpR (op_eqD hr.units) (pv 0) (pe_tup pa_nil) (nomark _)) (pss_one (ps_ret pe_bl)) pss_nil)
      (pss_one (ps_ret (pe_and (pe_cmpR op_eq (pe_callB (id := "len") call_lenQ (by rfl) t.n_len (by decide +kernel) (pa_cons (pv 0) pa_nil)) pe_int (nomark _)) (pe_and (pe_chain op_le op_lt pe_int (pe_ix ix_tup (pv 0) pe_int (fun _ _ => rfl)) (pv 2)) (pe_and (pe_cmpR op_in_seq (pe_ix ix_tup (pv 0) pe_int (fun _ _ => rfl)) (pe_lst (pa_cons (pe_un un_neg pe_int) (pa_cons pe_int pa_nil))) (by rfl)) (pe_one (pe_chain op_le op_lt pe_int (pe_ix ix_tup (pv 0) pe_int (fun _ _ => rfl)) (pv 1))))))))), ?_⟩
    have g0 : Gr mu0 F H F H := Gr.refl sF
    refine ⟨_, rfl, by show 0 ≤ sizeLine; decide, fun p np => ?_⟩
    have g1 : Gr mu0 F H F (upd H p (.tup [])) := g0.own np
    refine eq_dat (a := e) (b := Ent.emp) (hv.up g1.fh) ⟨p, rfl, upd_same⟩ ?_
    refine ⟨_, rfl, ?_⟩
    refine ite2 (fun c => ?_) (fun c => ?_)
    · exact q _ g1
    · cases e with
      | emp => exact absurd (decide_eq_true rfl) c
      | go pu wa ro =>
        obtain ⟨a, rfl, ha⟩ := hv
        obtain ⟨⟨o1, o2⟩, o3, o4, o5⟩ := he.ok _ _ _ rfl
        have h1 := g1.fh _ _ ha
        refine ⟨_, rfl, a, _, rfl, .inr (SqT.of h1), rfl, _, rfl, ifT rfl ?_⟩
        refine ⟨_, rfl, a, _, _, _, rfl, rfl, SqT.of h1, atI_nat (j := 0) rfl, _, _, rfl, rfl, _, rfl, ifT (decide_eq_true o1) ⟨_, rfl, _, _, rfl, rfl, _, rfl, ifT (decide_eq_true o2) ?_⟩⟩
        refine ⟨_, rfl, a, _, _, _, rfl, rfl, SqT.of h1, atI_nat (j := 1) rfl, _, rfl, two_le, fun l nl => ?_⟩
        have g2 := g1.own (o := .lst [.int (-1), .int 1]) nl
        have h2 := g2.fh _ _ ha
        refine ⟨l, _, rfl, .inl (SqL.of upd_same), rfl, rfl, _, rfl, ifT ?_ ?_⟩
        · rcases o3 with rfl | rfl <;> rfl
        · refine ⟨_, rfl, a, _, _, _, rfl, rfl, SqT.of h2, atI_nat (j := 2) rfl, _, _, rfl, rfl, _, rfl, ifT (decide_eq_true o4) ⟨_, rfl, _, _, rfl, rfl, ?_⟩⟩
          show Q (.bl (decide (ro < (R : Int)))) _
          rw [decide_eq_true o5]
          exact q _ g2
/-- all bools of a list of trues -/
theorem all_rep (n : Nat) : (List.replicate n true).all id = true := by simp
theorem map_rep (n : Nat) : (List.replicate n true).map V.bl = List.replicate n (V.bl true) := by simp
theorem rep_snoc (n : Nat) : List.replicate n (V.bl true) ++ [V.bl true] = List.replicate (n + 1) (V.bl true) := by
  rw [← List.replicate_succ']
def sp_is_machine : Sp := fun vs H Q _ => ∃ (F : Hp) (v : V) (M : Mach) (R S : Nat), vs = [v] ∧ Same F H ∧ Is F v M ∧ MOk M R S ∧ ∀ H', Gr mu0 F H F H' → Q (.bl true) H'
theorem ok_is_machine (t : Tx K mg) : FnOk P w K mg base CX0 2 t.a_is_machine t.fd_is_machine ["machine"] sp_is_machine := by
  refine t.F_is_machine.ok sc_is_machine (fun vs H Q E h => ?_) (fun cdv A outer s H vs Q E hr h => ?_)
  · obtain ⟨F, v, M, R, S, rfl, _⟩ := h
    rfl
  · obtain ⟨F, v, M, R, S, rfl, sF, hv, hM, q⟩ := h
    refine ⟨_, (pss_cons (ps_set (i := 1) sc_is_machine.nd rfl (by first | exact Or.inl rfl | exact Or.inr rfl) (pe_callB (id := "len") call_lenQ (by rfl) t.n_len (by decide +kernel) (pa_cons (pv 0) pa_nil)))
      (pss_cons (ps_if (pt_not (pt_chain op_le op_le pe_int (pv 1) (pe_glob (v := .int 4) (by rfl) t.m_MOST_ROWS ⟨_, rfl⟩))) (pss_one (ps_ret pe_bl)) pss_nil)
      (pss_cons (ps_set (i := 2) sc_is_machine.nd rfl (by first | exact Or.inl rfl | exact Or.inr rfl) (pe_callB (id := "len") call_lenQ (by rfl) t.n_len (by decide +kernel) (pa_cons (pe_ix ix_list (pv 0) pe_int (fun _ _ => rfl)) pa_nil)))
      (pss_cons (ps_if (PW.pt (pw_or (pt_not (pt_chain op_le op_le pe_int (pv 2) (pe_glob (v := .int 4) (by rfl) t.m_MOST_SIGNS ⟨_, rfl⟩))) (pw_or1 (pt_not (pt_val (pe_callB (id := "all") (cr_all rfl) (by rfl) t.n_all (by decide +kernel) (pa_cons (pe_lc (own := [("row", 3)]) (g := gName 3) (tt := tYes) rfl sc_is_machine.nd (pi_list (pv 0)) (blkOk_by (N := N_is_machine) (sc := defScope s_is_machine) (by decide +kernel)) (fun _ _ _ _ _ => (pg_name (i := 3) sc_is_machine.nd rfl (by first | exact Or.inl rfl | exact Or.inr rfl))) (fun _ _ _ _ _ => pts_nil) (fun _ _ _ _ _ => (pe_cmpR op_eq (pe_callB (id := "len") (crK (K := K) (r := rLenQ) rfl call_lenQ) (by rfl) t.n_len (by decide +kernel) (pa_cons (pv 3) pa_nil)) (pv 2) (nomark _)))) pa_nil))))))) (pss_one (ps_ret pe_bl)) pss_nil)
      (pss_one (ps_ret (pe_callB (id := "all") (cr_all rfl) (by rfl) t.n_all (by decide +kernel) (pa_cons (pe_lc (own := [("row", 3)]) (g := gName 3) (tt := tYes) rfl sc_is_machine.nd (pi_list (pv 0)) (blkOk_by (N := N_is_machine) (sc := defScope s_is_machine) (by decide +kernel)) (fun _ _ _ _ _ => (pg_name (i := 3) sc_is_machine.nd rfl (by first | exact Or.inl rfl | exact Or.inr rfl))) (fun _ _ _ _ _ => pts_nil) (fun _ _ _ _ _ => (pe_callB (id := "all") (crK (K := K) (r := rAll) rfl (cr_all rfl)) (by rfl) t.n_all (by decide +kernel) (pa_cons (pe_lc (own := [("entry", 4)]) (g := gName 4) (tt := tYes) rfl sc_is_machine.nd (pi_listK (K := K) rfl (pv 3)) (blkOk_by (N := N_is_machine) (sc := { kind := PySem.ScopeKind.function, names := [(PySem.Str.ofString ".0", PySem.NameKind.local), (PySem.Str.ofString "row", PySem.NameKind.local), (PySem.Str.ofString "all", PySem.NameKind.globalImplicit), (PySem.Str.ofString "rows", PySem.NameKind.cell), (PySem.Str.ofString "signs", PySem.NameKind.cell)], isGenerator := false, isCoroutine := false }) (by decide +kernel)) (fun _ _ _ _ _ => (pg_name (i := 4) sc_is_machine.nd rfl (by first | exact Or.inl rfl | exact Or.inr rfl))) (fun _ _ _ _ _ => pts_nil) (fun _ _ _ _ _ => (pe_call (ok_is_entry t) (hr.mono (by decide)) (by rfl) t.m_is_entry t.F_is_entry.kp t.b_is_entry .nil pass0 (pa_cons (pv 4) (pa_cons (pv 1) (pa_cons (pv 2) pa_nil)))))) pa_nil)))) pa_nil)))))))), ?_⟩
    have g0 : Gr mu0 F H F H := Gr.refl sF
    have r1 := hM.r1
    have r4 := hM.r4
    have s2 := hM.s2
    have s4 := hM.s4
    obtain ⟨a, rs, rfl, ha, hrs⟩ := hv
    have lrs : rs.length = R := hrs.1.trans hM.len
    have h0 := sF _ _ ha
    have l0 : 0 < rs.length := by omega
    have hx0 : rs[0]? = some rs[0] := List.getElem?_eq_getElem l0
    obtain ⟨row0, hM0, hr0⟩ := hrs.get' hx0
    obtain ⟨a0, es0, e0, ha0, hes0⟩ := hr0
    have ls0 : es0.length = S := hes0.1.trans (hM.row _ (List.mem_of_getElem? hM0))
    have hb0 := sF _ _ ha0
    -- rows = len(machine); signs = len(machine[0])
    refine ⟨_, rfl, a, rs, rfl, .inl (SqL.of h0), _, rfl, _, _, rfl, rfl, _, rfl, ifT (decide_eq_true (by omega)) ⟨_, _, rfl, rfl, _, rfl, ?_⟩⟩
    refine ifF (by rw [decide_eq_true (show (rs.length : Int) ≤ 4 by omega)]; rfl) ?_
    refine ⟨_, rfl, a, rs, _, _, rfl, rfl, SqL.of h0, atI_nat (j := 0) hx0, ?_⟩
    rw [e0]
    refine ⟨a0, es0, rfl, .inl (SqL.of hb0), _, rfl, _, _, rfl, rfl, _, rfl, ifT (decide_eq_true (by omega)) ⟨_, _, rfl, rfl, _, rfl, ?_⟩⟩
    refine ifF (by rw [decide_eq_true (show (es0.length : Int) ≤ 4 by omega)]; rfl) ?_
    -- all([len(row) == signs for row in machine])
    refine ⟨_, rfl, a, rfl, ⟨_, SqL.of h0⟩, fun D nD => lc_list (K := K) (a := a) (xs := rs) (fun i G => Gr mu0 F H F G ∧ G D = some (.lst (List.replicate i (V.bl true)))) ⟨g0.own nD, upd_same⟩ (fun i G _ p => SqL.of (p.1.fh _ _ ha)) ?_ ?_⟩
    · rintro i x G hi ⟨gG, hD⟩
      obtain ⟨row, hMi, b, es, rfl, hb, hes⟩ := hrs.get' hi
      have ls : es.length = S := hes.1.trans (hM.row _ (List.mem_of_getElem? hMi))
      have il : i < rs.length := (List.getElem?_eq_some_iff.mp hi).1
      refine ⟨rfl, ?_⟩
      refine yes ⟨_, rfl, b, es, rfl, .inl (SqL.of (gG.fh _ _ hb)), _, rfl, rfl, _, hD, by rw [List.length_replicate]; exact lt_size (by omega), ?_⟩
      have e : (V.bl (decide (V.int (es.length : Int) = V.int (es0.length : Int)))) = V.bl true := by rw [ls, ls0]; simp
      rw [e, rep_snoc]
      exact ⟨gG.set (ne_of_none' sF nD) (.inl nD), upd_same⟩
    · rintro G ⟨gG, hD⟩
      refine ⟨D, List.replicate rs.length true, rfl, SqL.of (by rw [map_rep]; exact hD), _, rfl, ifF (by rw [all_rep]; rfl) ?_⟩
      -- all([all([is_entry(entry, rows, signs) for entry in row]) for row in machine])
      refine ⟨_, rfl, a, rfl, ⟨_, SqL.of (gG.fh _ _ ha)⟩, fun D1 nD1 => lc_list (K := K) (a := a) (xs := rs) (fun i G1 => Gr mu0 F H F G1 ∧ H D1 = none ∧ G1 D1 = some (.lst (List.replicate i (V.bl true)))) ⟨gG.own nD1, gG.th _ nD1, upd_same⟩ (fun i G1 _ p => SqL.of (p.1.fh _ _ ha)) ?_ ?_⟩
      · rintro i x G1 hi ⟨gG1, nH, hD1⟩
        obtain ⟨row, hMi, b, es, rfl, hb, hes⟩ := hrs.get' hi
        have ls : es.length = S := hes.1.trans (hM.row _ (List.mem_of_getElem? hMi))
        have il : i < rs.length := (List.getElem?_eq_some_iff.mp hi).1
        refine ⟨rfl, yes ⟨_, rfl, b, rfl, ⟨_, SqL.of (gG1.fh _ _ hb)⟩, fun D2 nD2 => lc_list (K := K) (a := b) (xs := es) (fun j G2 => Gr mu0 F H F G2 ∧ H D2 = none ∧ D1 ≠ D2 ∧ G2 D1 = some (.lst (List.replicate i (V.bl true))) ∧ G2 D2 = some (.lst (List.replicate j (V.bl true))))
          ⟨gG1.own nD2, gG1.th _ nD2, ne_of_none hD1 nD2, by rw [upd_ne (ne_of_none hD1 nD2)]; exact hD1, upd_same⟩ (fun j G2 _ p => SqL.of (p.1.fh _ _ hb)) ?_ ?_⟩⟩
        · rintro j y G2 hj ⟨gG2, nH2, d12, h1, h2⟩
          obtain ⟨e, hej, hye⟩ := hes.get' hj
          have jl : j < es.length := (List.getElem?_eq_some_iff.mp hj).1
          refine ⟨rfl, yes ⟨_, rfl, _, rfl, _, rfl, F, y, e, R, S, ?_, gG2.fh, hye, hM.ent _ (List.mem_of_getElem? hMi) _ (List.mem_of_getElem? hej), fun G3 g3 => ?_⟩⟩
          · rw [lrs, ls0]
            rfl
          · have gH3 := gG2.trans g3
            refine ⟨_, g3.fr _ _ h2 (fun z => z), by rw [List.length_replicate]; exact lt_size (by omega), ?_⟩
            rw [rep_snoc]
            exact ⟨gH3.set (sF.free nH2) (.inl nH2), nH2, d12, by rw [upd_ne d12]; exact g3.fr _ _ h1 (fun z => z), upd_same⟩
        · rintro G2 ⟨gG2, nH2, d12, h1, h2⟩
          refine ⟨D2, List.replicate es.length true, rfl, SqL.of (by rw [map_rep]; exact h2), ?_⟩
          refine ⟨_, h1, by rw [List.length_replicate]; exact lt_size (by omega), ?_⟩
          rw [all_rep, rep_snoc]
          exact ⟨gG2.set (sF.free nH) (.inl nH), nH, upd_same⟩
      · rintro G1 ⟨gG1, nH, hD1⟩
        refine ⟨D1, List.replicate rs.length true, rfl, SqL.of (by rw [map_rep]; exact hD1), ?_⟩
        rw [all_rep]
        exact q _ gG1
def sp_must_machine : Sp := fun vs H Q _ => ∃ (F : Hp) (v : V) (M : Mach) (R S : Nat), vs = [v] ∧ Same F H ∧ Is F v M ∧ MOk M R S ∧ ∀ H', Gr mu0 F H F H' → Q .non H'
theorem ok_must_machine (t : Tx K mg) : FnOk P w K mg base CX0 3 t.a_must_machine t.fd_must_machine ["machine"] sp_must_machine := by
  refine t.F_must_machine.ok sc_must_machine (fun vs H Q E h => ?_) (fun cdv A outer s H vs Q E hr h => ?_)
  · obtain ⟨F, v, M, R, S, rfl, _⟩ := h
    rfl
  · obtain ⟨F, v, M, R, S, rfl, sF, hv, hM, q⟩ := h
    refine ⟨_, (pss_one (ps_if (pt_not (pt_val (pe_call (ok_is_machine t) (hr.mono (by decide)) (by rfl) t.m_is_machine t.F_is_machine.kp t.b_is_machine .nil pass0 (pa_cons (pv 0) pa_nil)))) (pss_one ps_never) pss_nil)), ?_⟩
    exact ⟨_, rfl, F, _, M, R, S, rfl, sF, hv, hM, fun H' g => ⟨_, rfl, ifF rfl (q _ g)⟩⟩
/-! ### a machine on its way -/
/-- a Goer stands at g, its dict at d -/
structure GoAt (C : Addr) (H : Hp) (g d : Addr) (tb : V) (r s : Int) (l : List PI) (n : Int) : Prop where
  ob : ∃ dx, H g = some (.ins C dx (Goer_F tb (.int r) (.int s) (.ref d) (.int n)))
  dc : H d = some (.dK (dI l))
theorem GoAt.ne {C : Addr} {H : Hp} {g d : Addr} {tb : V} {r s : Int} {l : List PI} {n : Int} (h : GoAt C H g d tb r s l n) : g ≠ d := by
  obtain ⟨dx, e⟩ := h.ob
  exact ne_of e h.dc (by intro z; cases z)
theorem GoAt.gr {mu : Addr → Prop} {C : Addr} {F H F' H' : Hp} {g d : Addr} {tb : V} {r s : Int} {l : List PI} {n : Int} (h : GoAt C H g d tb r s l n) (a : Gr mu F H F' H') (hg : ¬ mu g) (hd : ¬ mu d) : GoAt C H' g d tb r s l n := by
  obtain ⟨dx, e⟩ := h.ob
  exact ⟨⟨dx, a.fr _ _ e hg⟩, a.fr _ _ h.dc hd⟩
/-- places, and strips that are told, as a setup -/
abbrev Setup := T3 Int Int (List PI)
def sp_Goer_init (C : Addr) : Sp := fun vs H Q _ => ∃ (F : Hp) (g dx : Addr) (tb u : V) (x : Setup), vs = [.ref g, tb, u] ∧ H g = some (.ins C dx []) ∧ F g = none ∧ Same F H ∧ Is F u x ∧
  ∀ (d : Addr) (H' : Hp), H d = none → Gr (muP g) F H F H' → GoAt C H' g d tb x.a x.b (merge [] x.c) 0 → Q .non H'
theorem ok_Goer_init (t : Tx K mg) : FnOk P w K mg base CX0 1 t.a_Goer_init t.fd_Goer_init ["self", "machine", "setup"] (sp_Goer_init t.C_Goer) := by
  refine t.F_Goer_init.ok sc_Goer_init (fun vs H Q E h => ?_) (fun cdv A outer s H vs Q E hr h => ?_)
  · obtain ⟨F, g, dx, tb, u, x, rfl, _⟩ := h
    rfl
  · obtain ⟨F, g, dx, tb, u, x, rfl, hg, fg, sF, hu, q⟩ := h
    refine ⟨_, (pss_cons (ps_fld (pv 0) (pv 1) rfl)
      (pss_cons (ps_fld (pv 0) (pe_ix ix_tup (pv 2) pe_int (fun _ _ => rfl)) rfl)
      (pss_cons (ps_fld (pv 0) (pe_ix ix_tup (pv 2) pe_int (fun _ _ => rfl)) rfl)
      (pss_cons (ps_fld (pv 0) (pe_callTy (T := "dict") (call_dictQ rfl) (by rfl) t.n_dict (by decide +kernel) (pa_cons (pe_ix ix_tup (pv 2) pe_int (fun _ _ => rfl)) pa_nil)) rfl)
      (pss_one (ps_fld (pv 0) pe_int rfl)))))), ?_⟩
    obtain ⟨p, x1, x2, x3, rfl, hp, e1, e2, hl⟩ := hu
    have e1 : x1 = .int x.a := e1
    have e2 : x2 = .int x.b := e2
    subst e1
    subst e2
    obtain ⟨a, xs, rfl, ha, hxs⟩ := hl
    have g0 : Gr (muP g) F H F H := Gr.refl sF
    refine ⟨_, rfl, _, rfl, g, t.C_Goer, dx, [], rfl, hg, t.cl_Goer, t.nA_Goer_table, by show 0 < 1000; decide, ?_⟩
    have g1 := g0.set (o := .ins t.C_Goer dx [("table", tb)]) fg (.inr rfl)
    rw [Goer_mk0]
    refine ⟨_, rfl, p, _, _, _, rfl, rfl, SqT.of (g1.fh _ _ hp), atI_nat (j := 0) rfl, _, rfl, g, t.C_Goer, dx, _, rfl, upd_same, t.cl_Goer, t.nA_Goer_row, by show 1 < 1000; decide, ?_⟩
    have g2 := g1.set (o := .ins t.C_Goer dx [("table", tb), ("row", .int x.a)]) fg (.inr rfl)
    rw [Goer_mk1]
    refine ⟨_, rfl, p, _, _, _, rfl, rfl, SqT.of (g2.fh _ _ hp), atI_nat (j := 1) rfl, _, rfl, g, t.C_Goer, dx, _, rfl, upd_same, t.cl_Goer, t.nA_Goer_spot, by show 2 < 1000; decide, ?_⟩
    have g3 := g2.set (o := .ins t.C_Goer dx [("table", tb), ("row", .int x.a), ("spot", .int x.b)]) fg (.inr rfl)
    rw [Goer_mk2]
    refine ⟨_, rfl, p, _, _, _, rfl, rfl, SqT.of (g3.fh _ _ hp), atI_nat (j := 2) rfl, ?_⟩
    refine dict_pairs (hxs.up g3.fh) (SqL.of (g3.fh _ _ ha)) fun d nd => ?_
    have g4 := g3.own (o := .dK (dI (merge [] x.c))) nd
    have gd : g ≠ d := ne_of_none upd_same nd
    refine ⟨_, rfl, g, t.C_Goer, dx, _, rfl, (upd_ne gd).trans upd_same, t.cl_Goer, t.nA_Goer_signs, by show 3 < 1000; decide, ?_⟩
    have g5 := g4.set (o := .ins t.C_Goer dx [("table", tb), ("row", .int x.a), ("spot", .int x.b), ("signs", .ref d)]) fg (.inr rfl)
    rw [Goer_mk3]
    refine ⟨_, rfl, g, t.C_Goer, dx, _, rfl, upd_same, t.cl_Goer, t.nA_Goer_steps, by show 4 < 1000; decide, ?_⟩
    have g6 := g5.set (o := .ins t.C_Goer dx [("table", tb), ("row", .int x.a), ("spot", .int x.b), ("signs", .ref d), ("steps", .int 0)]) fg (.inr rfl)
    rw [Goer_mk4]
    exact q d _ (g3.th _ nd) g6 ⟨⟨dx, upd_same⟩, by rw [upd_ne gd.symm, upd_ne gd.symm, upd_same]⟩
def sp_Goer_entry (C : Addr) : Sp := fun vs H Q _ => ∃ (F : Hp) (g d : Addr) (tb : V) (M : Mach) (r s : Int) (l : List PI) (n : Int) (row : List Ent) (e : Ent), vs = [.ref g] ∧ Same F H ∧ Is F tb M ∧ GoAt C H g d tb r s l n ∧
  0 ≤ r ∧ M[r.toNat]? = some row ∧ 0 ≤ (look l s).getD 0 ∧ row[((look l s).getD 0).toNat]? = some e ∧ ∀ v, Is F v e → Q v H
theorem ok_Goer_entry (t : Tx K mg) : FnOk P w K mg base CX0 1 t.a_Goer_entry t.fd_Goer_entry ["self"] (sp_Goer_entry t.C_Goer) := by
  refine t.F_Goer_entry.ok sc_Goer_entry (fun vs H Q E h => ?_) (fun cdv A outer s H vs Q E hr h => ?_)
  · obtain ⟨F, g, d, tb, M, r, s, l, n, row, e, rfl, _⟩ := h
    rfl
  · obtain ⟨F, g, d, tb, M, r, s, l, n, row, e, rfl, sF, hM, hg, hr0, hrow, hs0, he, q⟩ := h
    refine ⟨_, (pss_one (ps_ret (pe_ix ix_list (pe_ix ix_list (pe_fld (pv 0) rfl) (pe_fld (pv 0) rfl) (fun _ _ => rfl)) (pe_dget2 (hu_of hr) (pe_fld (pv 0) rfl) (pe_fld (pv 0) rfl) pe_int ⟨by rfl, by rfl, by rfl, by rfl⟩) (fun _ _ => rfl)))), ?_⟩
    obtain ⟨⟨dx, ho⟩, hd⟩ := id hg
    obtain ⟨a, rs, rfl, ha, hrs⟩ := hM
    obtain ⟨x, hx, b, es, rfl, hb, hes⟩ := hrs.get hrow
    obtain ⟨y, hy, hye⟩ := hes.get he
    refine ⟨_, rfl, g, t.C_Goer, dx, _, _, rfl, ho, t.cl_Goer, t.nA_Goer_table, Goer_get_table, ?_⟩
    refine ⟨_, rfl, g, t.C_Goer, dx, _, _, rfl, ho, t.cl_Goer, t.nA_Goer_row, Goer_get_row, a, _, _, _, rfl, rfl, SqL.of (sF _ _ ha), at_of (Int.toNat_of_nonneg hr0).symm hx, ?_⟩
    refine ⟨_, rfl, g, t.C_Goer, dx, _, _, rfl, ho, t.cl_Goer, t.nA_Goer_signs, Goer_get_signs, d, rfl, .inl ⟨_, .inl hd⟩, _, rfl, g, t.C_Goer, dx, _, _, rfl, ho, t.cl_Goer, t.nA_Goer_spot, Goer_get_spot, _, DGet.k (k := Sum.inl s) hd, ?_⟩
    rw [dI_val]
    have e1 : ((look l s).map V.int).getD (.int 0) = .int ((look l s).getD 0) := by cases look l s <;> rfl
    rw [e1]
    exact ⟨b, _, _, _, rfl, rfl, SqL.of (sF _ _ hb), at_of (Int.toNat_of_nonneg hs0).symm hy, q _ hye⟩
/-- one step -/
def stepL (l : List PI) (s p : Int) : List PI := put l s p
def sp_Goer_step (C : Addr) : Sp := fun vs H Q _ => ∃ (F : Hp) (g d : Addr) (tb : V) (M : Mach) (r s : Int) (l : List PI) (n : Int) (row : List Ent) (e : Ent), vs = [.ref g] ∧ Same F H ∧ F g = none ∧ F d = none ∧ Is F tb M ∧ GoAt C H g d tb r s l n ∧
  0 ≤ r ∧ M[r.toNat]? = some row ∧ 0 ≤ (look l s).getD 0 ∧ row[((look l s).getD 0).toNat]? = some e ∧ l.length ≤ 100000 ∧
  (e = .emp → ∀ H', Gr mu0 F H F H' → Q (.bl false) H') ∧
  (∀ p w r', e = .go p w r' → ∀ H', Gr (fun c => c = g ∨ c = d) F H F H' → GoAt C H' g d tb r' (s + w) (put l s p) (n + 1) → Q (.bl true) H')
theorem ok_Goer_step (t : Tx K mg) : FnOk P w K mg base CX0 2 t.a_Goer_step t.fd_Goer_step ["self"] (sp_Goer_step t.C_Goer) := by
  refine t.F_Goer_step.ok sc_Goer_step (fun vs H Q E h => ?_) (fun cdv A outer s H vs Q E hr h => ?_)
  · obtain ⟨F, g, d, tb, M, r, s, l, n, row, e, rfl, _⟩ := h
    rfl
  · obtain ⟨F, g, d, tb, M, r, s, l, n, row, e, rfl, sF, fg, fd, hM, hg, hr0, hrow, hs0, he, hl, q1, q2⟩ := h
    refine ⟨_, (pss_cons (ps_set (i := 1) sc_Goer_step.nd rfl (by first | exact Or.inl rfl | exact Or.inr rfl) (pe_meth0 (pv 0) t.cl_Goer t.M_Goer_entry (ok_Goer_entry t) (hr.mono (by decide)) t.b_Goer_entry .nil pass0))
      (pss_cons (ps_if (pt_cmpR (op_eqD hr.units) (pv 1) (pe_tup pa_nil) (nomark _)) (pss_one (ps_ret pe_bl)) pss_nil)
      (pss_cons (ps_dput (hu_of hr) (pe_fld (pv 0) rfl) (pe_fld (pv 0) rfl) (pe_ix ix_tup (pv 1) pe_int (fun _ _ => rfl)) rfl)
      (pss_cons (ps_fldaug (pv 0) (pe_ix ix_tup (pv 1) pe_int (fun _ _ => rfl)) in_add)
      (pss_cons (ps_fld (pv 0) (pe_ix ix_tup (pv 1) pe_int (fun _ _ => rfl)) rfl)
      (pss_cons (ps_fldaug (pv 0) pe_int in_add)
      (pss_one (ps_ret pe_bl)))))))), ?_⟩
    obtain ⟨⟨dx, ho⟩, hd⟩ := id hg
    have gd := hg.ne
    have g0 : Gr (fun c => c = g ∨ c = d) F H F H := Gr.refl sF
    have g00 : Gr mu0 F H F H := Gr.refl sF
    refine ⟨_, rfl, g, dx, _, rfl, ho, Goer_no (by decide +kernel) (by decide +kernel) (by decide +kernel) (by decide +kernel) (by decide +kernel), F, g, d, tb, M, r, s, l, n, row, e, rfl, sF, hM, hg, hr0, hrow, hs0, he, fun v hv => ?_⟩
    refine ⟨_, rfl, nil_le, fun p np => ?_⟩
    refine eq_dat (a := e) (b := Ent.emp) (hv.up (g0.own np).fh) ⟨p, rfl, upd_same⟩ ?_
    refine ⟨_, rfl, ?_⟩
    refine ite2 (fun c => ?_) (fun c => ?_)
    · exact q1 (of_decide_eq_true c) _ (g00.own np)
    · cases e with
      | emp => exact absurd (decide_eq_true rfl) c
      | go pu wa ro =>
        obtain ⟨a, rfl, ha⟩ := hv
        have g1 := g0.own (o := .tup []) np
        have gp : g ≠ p := ne_of_none ho np
        have dp : d ≠ p := ne_of_none hd np
        have ho1 := (upd_ne (H := H) (o := .tup []) gp).trans ho
        have hd1 := (upd_ne (H := H) (o := .tup []) dp).trans hd
        -- self.signs[self.spot] = entry[0]
        refine ⟨_, rfl, a, _, _, _, rfl, rfl, SqT.of (g1.fh _ _ ha), atI_nat (j := 0) rfl, _, rfl, g, t.C_Goer, dx, _, _, rfl, ho1, t.cl_Goer, t.nA_Goer_signs, Goer_get_signs, _, rfl, g, t.C_Goer, dx, _, _, rfl, ho1, t.cl_Goer, t.nA_Goer_spot, Goer_get_spot, d, _, rfl, DPut.k (k := Sum.inl s) hd1 (by show (dI l).length < _; unfold dI; rw [List.length_map]; exact lt_size (by omega)), ?_⟩
        rw [dI_put]
        have g2 := g1.set (o := .dK (dI (put l s pu))) fd (.inr (.inr rfl))
        have ho2 := (upd_ne (H := upd H p (.tup [])) (o := .dK (dI (put l s pu))) gd).trans ho1
        -- self.spot += entry[1]
        refine ⟨_, rfl, g, t.C_Goer, dx, _, _, rfl, ho2, t.cl_Goer, t.nA_Goer_spot, Goer_get_spot, _, rfl, a, _, _, _, rfl, rfl, SqT.of (g2.fh _ _ ha), atI_nat (j := 1) rfl, _, _, rfl, rfl, _, _, ho2, Goer_few, ?_⟩
        rw [Goer_put_spot]
        have g3 := g2.set (o := .ins t.C_Goer dx (Goer_F tb (.int r) (.int (s + wa)) (.ref d) (.int n))) fg (.inr (.inl rfl))
        -- self.row = entry[2]
        refine ⟨_, rfl, a, _, _, _, rfl, rfl, SqT.of (g3.fh _ _ ha), atI_nat (j := 2) rfl, _, rfl, g, t.C_Goer, dx, _, rfl, upd_same, t.cl_Goer, t.nA_Goer_row, Goer_few, ?_⟩
        rw [Goer_put_row]
        have g4 := g3.set (o := .ins t.C_Goer dx (Goer_F tb (.int ro) (.int (s + wa)) (.ref d) (.int n))) fg (.inr (.inl rfl))
        -- self.steps += 1
        refine ⟨_, rfl, g, t.C_Goer, dx, _, _, rfl, upd_same, t.cl_Goer, t.nA_Goer_steps, Goer_get_steps, _, _, rfl, rfl, _, _, upd_same, Goer_few, ?_⟩
        rw [Goer_put_steps]
        have g5 := g4.set (o := .ins t.C_Goer dx (Goer_F tb (.int ro) (.int (s + wa)) (.ref d) (.int (n + 1)))) fg (.inr (.inl rfl))
        refine q2 _ _ _ rfl _ g5 ⟨⟨dx, upd_same⟩, ?_⟩
        rw [upd_ne gd.symm, upd_ne gd.symm, upd_ne gd.symm, upd_same]
/-! ### machines drawn: lists that may be changed yet -/
structure MaO (H F1 H1 : Hp) (m : Addr) (rs : List Addr) (ess : List (List V)) (M : Mach) : Prop where
  ow : Ow H F1 H1 m (.lst (rs.map V.ref))
  nd : rs.Nodup
  ne : m ∉ rs
  len : rs.length = ess.length
  rows : ∀ (i : Nat) r es, rs[i]? = some r → ess[i]? = some es → Ow H F1 H1 r (.lst es)
  dat : All2 (fun es row => IsAll F1 es row) ess M
section
variable {mu mu' : Addr → Prop} {H F F1 H1 F2 H2 : Hp} {m : Addr} {rs : List Addr} {ess : List (List V)} {M : Mach}
theorem MaO.row (x : MaO H F1 H1 m rs ess M) {r : Addr} (h : r ∈ rs) : ∃ es, Ow H F1 H1 r (.lst es) := by
  obtain ⟨i, hi⟩ := List.getElem?_of_mem h
  have l := (List.getElem?_eq_some_iff.mp hi).1
  exact ⟨ess[i]'(by rw [← x.len]; exact l), x.rows i r _ hi (List.getElem?_eq_getElem _)⟩
theorem MaO.gr (x : MaO H F1 H1 m rs ess M) (g : Gr mu F1 H1 F2 H2) (k : ∀ c, mu c → c ≠ m ∧ c ∉ rs) : MaO H F2 H2 m rs ess M where
  ow := x.ow.call g fun z => (k m z).1 rfl
  nd := x.nd
  ne := x.ne
  len := x.len
  rows := fun i r es h1 h2 => (x.rows i r es h1 h2).call g fun z => (k r z).2 (List.mem_of_getElem? h1)
  dat := x.dat.imp fun es row z => z.up g.ff
theorem MaO.off (x : MaO H F1 H1 m rs ess M) {p : Addr} {o : HO} (h : H p = some o) : ∀ c, muP p c → c ≠ m ∧ c ∉ rs := fun c e => by
  rw [show c = p from e]
  refine ⟨fun z => ?_, fun z => ?_⟩
  · rw [z, x.ow.n] at h; cases h
  · obtain ⟨es, w⟩ := x.row z
    rw [w.n] at h; cases h
theorem MaO.offn (x : MaO H F1 H1 m rs ess M) {p : Addr} (h : H1 p = none) : p ≠ m ∧ p ∉ rs := by
  refine ⟨fun z => ?_, fun z => ?_⟩
  · rw [z, x.ow.h] at h; cases h
  · obtain ⟨es, w⟩ := x.row z
    rw [w.h] at h; cases h
/-- a row that is done comes in -/
theorem MaO.add (x : MaO H F1 H1 m rs ess M) {r : Addr} {es : List V} {row : List Ent} (w : Ow H F1 H1 r (.lst es)) (k : r ≠ m ∧ r ∉ rs) (d : IsAll F1 es row) : MaO H F1 (upd H1 m (.lst ((rs ++ [r]).map V.ref))) m (rs ++ [r]) (ess ++ [es]) (M ++ [row]) where
  ow := x.ow.set
  nd := nd_snoc x.nd k.2
  ne := fun z => by
    rcases List.mem_append.mp z with z | z
    · exact x.ne z
    · exact k.1 (List.mem_singleton.mp z).symm
  len := by rw [List.length_append, List.length_append, x.len]; rfl
  rows := fun i r' es' h1 h2 => by
    by_cases l : i < rs.length
    · rw [List.getElem?_append_left l] at h1
      rw [List.getElem?_append_left (by rw [← x.len]; exact l)] at h2
      exact (x.rows i r' es' h1 h2).other fun z => x.ne (by rw [← z]; exact List.mem_of_getElem? h1)
    · rw [List.getElem?_append_right (by omega)] at h1
      rw [List.getElem?_append_right (by rw [← x.len]; omega), ← x.len] at h2
      cases e : i - rs.length with
      | zero =>
        rw [e] at h1 h2
        cases h1; cases h2
        exact w.other k.1
      | succ n => rw [e] at h1; cases h1
  dat := x.dat.app (All2.one d)
/-- an entry of it is changed -/
theorem MaO.put (x : MaO H F1 H1 m rs ess M) {i j : Nat} {r : Addr} {es : List V} {row : List Ent} {v : V} {e : Ent} (hr : rs[i]? = some r) (hes : ess[i]? = some es) (hrow : M[i]? = some row) (hv : Is F1 v e) :
    MaO H F1 (upd H1 r (.lst (es.set j v))) m rs (ess.set i (es.set j v)) (M.set i (row.set j e)) where
  ow := x.ow.other fun z => x.ne (by rw [z]; exact List.mem_of_getElem? hr)
  nd := x.nd
  ne := x.ne
  len := by rw [List.length_set]; exact x.len
  rows := fun i' r' es' h1 h2 => by
    by_cases e : i = i'
    · subst e
      rw [hr] at h1
      cases h1
      rw [List.getElem?_set_self (List.getElem?_eq_some_iff.mp hes).1] at h2
      cases h2
      exact (x.rows i r es hr hes).set
    · rw [List.getElem?_set_ne e] at h2
      exact (x.rows i' r' es' h1 h2).other fun z => e (nd_ix x.nd hr (by rw [← z]; exact h1))
  dat := x.dat.set ((x.dat.2 i es row hes hrow).set hv j) i
/-- it is changed no more -/
theorem MaO.frz (x : MaO H F1 H1 m rs ess M) (g : Gr mu F H F1 H1) : ∃ F2, Gr mu F H F2 H1 ∧ Same F1 F2 ∧ Is F2 (.ref m) M ∧ (∀ c, c ≠ m → c ∉ rs → F2 c = F1 c) ∧ ∀ c, c = m ∨ c ∈ rs → F2 c = H1 c := by
  have own : ∀ c, (c = m ∨ c ∈ rs) → H c = none ∧ F1 c = none ∧ ∃ o, H1 c = some o := fun c h => by
    rcases h with rfl | h
    · exact ⟨x.ow.n, x.ow.f, _, x.ow.h⟩
    · obtain ⟨es, w⟩ := x.row h
      exact ⟨w.n, w.f, _, w.h⟩
  have s : Same F1 (fun c => if c = m ∨ c ∈ rs then H1 c else F1 c) := fun c o h => by
    by_cases e : c = m ∨ c ∈ rs
    · rw [(own c e).2.1] at h; cases h
    · simp only [e, if_false]; exact h
  refine ⟨fun c => if c = m ∨ c ∈ rs then H1 c else F1 c, ⟨fun c o h => s c o (g.ff c o h), fun c o h => ?_, fun c o h => ?_, g.fr, g.th⟩, s, ⟨m, rs.map V.ref, rfl, ?_, by rw [List.length_map, x.len]; exact x.dat.1, fun i v row h1 h2 => ?_⟩, fun c h1 h2 => if_neg fun z => z.elim h1 h2, fun c h => if_pos h⟩
  · by_cases e : c = m ∨ c ∈ rs
    · simp only [e, if_true] at h; exact h
    · simp only [e, if_false] at h; exact g.fh c o h
  · by_cases e : c = m ∨ c ∈ rs
    · exact .inr (own c e).1
    · simp only [e, if_false] at h; exact g.nw c o h
  · show (if m = m ∨ m ∈ rs then H1 m else F1 m) = _
    rw [if_pos (.inl rfl)]; exact x.ow.h
  · rw [List.getElem?_map] at h1
    cases hr : rs[i]? with
    | none => rw [hr] at h1; cases h1
    | some r =>
      rw [hr] at h1
      cases h1
      obtain ⟨es, hes, hd⟩ := x.dat.get h2
      refine ⟨r, es, rfl, ?_, hd.up s⟩
      show (if r = m ∨ r ∈ rs then H1 r else F1 r) = _
      rw [if_pos (.inr (List.mem_of_getElem? hr))]
      exact (x.rows i r es hr hes).h
/-- it may be changed again -/
theorem MaO.thaw {F0 F3 G : Hp} (s0 : Same F0 H) (x : MaO H F1 H1 m rs ess M) (s : Same F1 F2) (on : ∀ c, c = m ∨ c ∈ rs → F2 c = H1 c) (s' : Same F2 F3) (g : Gr mu F0 H F3 G) : ∃ F', Gr mu F0 H F' G ∧ Same F1 F' ∧ MaO H F' G m rs ess M := by
  have own : ∀ c, (c = m ∨ c ∈ rs) → H c = none ∧ F1 c = none ∧ ∀ o, H1 c = some o → G c = some o := fun c h => by
    have k : ∀ o, H1 c = some o → G c = some o := fun o e => g.fh _ _ (s' _ _ ((on c h).trans e))
    rcases id h with rfl | h
    · exact ⟨x.ow.n, x.ow.f, k⟩
    · obtain ⟨es, w⟩ := x.row h
      exact ⟨w.n, w.f, k⟩
  have sa : Same F1 (fun c => if c = m ∨ c ∈ rs then none else F3 c) := fun c o h => by
    by_cases e : c = m ∨ c ∈ rs
    · rw [(own c e).2.1] at h; cases h
    · simp only [e, if_false]; exact s' _ _ (s _ _ h)
  have sb : Same (fun c => if c = m ∨ c ∈ rs then none else F3 c) F3 := fun c o h => by
    by_cases e : c = m ∨ c ∈ rs
    · simp only [e, if_true] at h; cases h
    · simp only [e, if_false] at h; exact h
  have no : ∀ c, (c = m ∨ c ∈ rs) → (fun c => if c = m ∨ c ∈ rs then none else F3 c) c = none := fun c e => if_pos e
  refine ⟨fun c => if c = m ∨ c ∈ rs then none else F3 c, ⟨fun c o h => ?_, fun c o h => g.fh _ _ (sb _ _ h), fun c o h => g.nw _ _ (sb _ _ h), g.fr, g.th⟩, sa, ⟨⟨x.ow.n, no _ (.inl rfl), (own _ (.inl rfl)).2.2 _ x.ow.h⟩, x.nd, x.ne, x.len, fun i r es h1 h2 => ?_, x.dat.imp fun es row z => z.up sa⟩⟩
  · by_cases e : c = m ∨ c ∈ rs
    · have z := s0 c o h
      rw [(own c e).1] at z; cases z
    · simp only [e, if_false]; exact g.ff c o h
  · have w := x.rows i r es h1 h2
    have m' : r = m ∨ r ∈ rs := .inr (List.mem_of_getElem? h1)
    exact ⟨w.n, no _ m', (own _ m').2.2 _ w.h⟩
theorem MaO.at (x : MaO H F1 H1 m rs ess M) {i : Nat} {row : List Ent} (h : M[i]? = some row) : ∃ r es, rs[i]? = some r ∧ ess[i]? = some es ∧ Ow H F1 H1 r (.lst es) ∧ IsAll F1 es row := by
  obtain ⟨es, hes, al⟩ := x.dat.get h
  have l : i < rs.length := by rw [x.len]; exact (List.getElem?_eq_some_iff.mp hes).1
  exact ⟨_, es, List.getElem?_eq_getElem l, hes, x.rows i _ es (List.getElem?_eq_getElem l) hes, al⟩
end
theorem ixN_of {n : Nat} {k : Int} (h0 : 0 ≤ k) (h1 : k < n) : ixN n k = some k.toNat := by
  unfold ixN
  rw [if_pos h0, if_pos h1]
theorem Gr.pf {mu : Addr → Prop} {F H F1 H1 : Hp} {p : Addr} {o : HO} (g : Gr mu F H F1 H1) (f : F p = none) (h : H p = some o) : F1 p = none := by
  cases e : F1 p with
  | none => rfl
  | some z =>
    rcases g.nw p z e with k | k
    · rw [f] at k; cases k
    · rw [h] at k; cases k
/-- a draw: the purse alone is another one -/
theorem Gr.drw {F H F1 H1 : Hp} {p : Addr} {o : HO} {a b : Int} (g : Gr (muP p) F H F1 H1) (f : F p = none) (h : H p = some o) : Gr (muP p) F H F1 (upd H1 p (PurseO a b)) ∧ Gr (muP p) F1 H1 F1 (upd H1 p (PurseO a b)) :=
  ⟨g.set (g.pf f h) (.inr rfl), (Gr.refl g.fh).set (g.pf f h) (.inr rfl)⟩
theorem MOk.set {M : Mach} {R S i j : Nat} {row : List Ent} {e : Ent} (h : MOk M R S) (hr : M[i]? = some row) (he : EOk R S e) : MOk (M.set i (row.set j e)) R S := by
  have mr := List.mem_of_getElem? hr
  refine ⟨h.r1, h.r4, h.s2, h.s4, by rw [List.length_set]; exact h.len, fun r z => ?_, fun r z e' z' => ?_⟩
  · rcases List.mem_or_eq_of_mem_set z with z | rfl
    · exact h.row r z
    · rw [List.length_set]; exact h.row row mr
  · rcases List.mem_or_eq_of_mem_set z with z | rfl
    · exact h.ent r z e' z'
    · rcases List.mem_or_eq_of_mem_set z' with z' | rfl
      · exact h.ent row mr e' z'
      · exact he
def sp_L_machine : Sp := fun vs H Q _ => ∃ (F : Hp) (p : Addr) (a b : Int), vs = [.ref p] ∧ Same F H ∧ F p = none ∧ H p = some (PurseO a b) ∧ 0 ≤ a ∧ 0 ≤ b ∧
  ∀ (F' H' : Hp) (m : Addr) (rs : List Addr) (ess : List (List V)) (M : Mach) (R S : Nat) (a' b' : Int), Gr (muP p) F H F' H' → H' p = some (PurseO a' b') → 0 ≤ a' → 0 ≤ b' → MOk M R S → MaO H F' H' m rs ess M → Q (.ref m) H'
theorem ok_L_machine (t : Tx K mg) : FnOk P w K mg base CX0 2 t.a_L_machine t.fd_L_machine ["_law_purse_here"] sp_L_machine := by
  refine t.F_L_machine.ok sc_L_machine (fun vs H Q E h => ?_) (fun cdv A outer s H vs Q E hr h => ?_)
  · obtain ⟨F, p, a, b, rfl, _⟩ := h
    rfl
  · obtain ⟨F, p, a, b, rfl, sF, fp, hp, ha, hb, q⟩ := h
    refine ⟨_, (pss_cons (ps_set (i := 1) sc_L_machine.nd rfl (by first | exact Or.inl rfl | exact Or.inr rfl) (pe_op op_add pe_int (pe_call (ok_L_draw t) (hr.mono (by decide)) (by rfl) t.m_L_draw t.F_L_draw.kp t.b_L_draw .nil pass0 (pa_cons (pv 0) (pa_cons pe_int pa_nil)))))
      (pss_cons (ps_set (i := 2) sc_L_machine.nd rfl (by first | exact Or.inl rfl | exact Or.inr rfl) (pe_op op_add pe_int (pe_call (ok_L_draw t) (hr.mono (by decide)) (by rfl) t.m_L_draw t.F_L_draw.kp t.b_L_draw .nil pass0 (pa_cons (pv 0) (pa_cons pe_int pa_nil)))))
      (pss_cons (ps_set (i := 3) sc_L_machine.nd rfl (by first | exact Or.inl rfl | exact Or.inr rfl) (pe_call (ok_L_draw t) (hr.mono (by decide)) (by rfl) t.m_L_draw t.F_L_draw.kp t.b_L_draw .nil pass0 (pa_cons (pv 0) (pa_cons pe_int pa_nil))))
      (pss_cons (ps_set (i := 4) sc_L_machine.nd rfl (by first | exact Or.inl rfl | exact Or.inr rfl) (pe_lst pa_nil))
      (pss_cons (ps_for PassesOwn.never rfl (pi_range1 (by rfl) t.n_range (pa_cons (pv 1) pa_nil)) (pg_name (i := 5) sc_L_machine.nd rfl (by first | exact Or.inl rfl | exact Or.inr rfl)) (pss_cons (ps_set (i := 6) sc_L_machine.nd rfl (by first | exact Or.inl rfl | exact Or.inr rfl) (pe_lst pa_nil))
      (pss_cons (ps_for PassesOwn.never rfl (pi_range1 (by rfl) t.n_range (pa_cons (pv 2) pa_nil)) (pg_name (i := 7) sc_L_machine.nd rfl (by first | exact Or.inl rfl | exact Or.inr rfl)) (pss_cons (ps_set (i := 8) sc_L_machine.nd rfl (by first | exact Or.inl rfl | exact Or.inr rfl) (pe_tup (pa_cons (pe_call (ok_L_draw t) (hr.mono (by decide)) (by rfl) t.m_L_draw t.F_L_draw.kp t.b_L_draw .nil pass0 (pa_cons (pv 0) (pa_cons (pv 2) pa_nil))) (pa_cons (pe_op op_sub (pe_op op_mul pe_int (pe_call (ok_L_draw t) (hr.mono (by decide)) (by rfl) t.m_L_draw t.F_L_draw.kp t.b_L_draw .nil pass0 (pa_cons (pv 0) (pa_cons pe_int pa_nil)))) pe_int) (pa_cons (pe_call (ok_L_draw t) (hr.mono (by decide)) (by rfl) t.m_L_draw t.F_L_draw.kp t.b_L_draw .nil pass0 (pa_cons (pv 0) (pa_cons (pv 1) pa_nil))) pa_nil)))))
      (pss_cons (ps_if (PW.pt (pw_and (pt_cmpR op_gt (pv 3) pe_int (nomark _)) (pw_and1 (pt_cmpR op_eq (pe_call (ok_L_draw t) (hr.mono (by decide)) (by rfl) t.m_L_draw t.F_L_draw.kp t.b_L_draw .nil pass0 (pa_cons (pv 0) (pa_cons (pe_op op_add pe_int (pe_op op_mul pe_int (pv 3))) pa_nil))) pe_int (nomark _))))) (pss_one (ps_set (i := 8) sc_L_machine.nd rfl (by first | exact Or.inl rfl | exact Or.inr rfl) (pe_tup pa_nil))) pss_nil)
      (pss_one (ps_expr (pe_bm PySem.F.plainAttrs_list PySem.F.slot_list_append PySem.F.type_list_append mt_append (pv 6) (pa_cons (pv 8) pa_nil)))))))
      (pss_one (ps_expr (pe_bm PySem.F.plainAttrs_list PySem.F.slot_list_append PySem.F.type_list_append mt_append (pv 4) (pa_cons (pv 6) pa_nil)))))))
      (pss_cons (ps_if (pt_cmpR op_eq (pv 3) pe_int (nomark _)) (pss_one (ps_asg (pe_tup pa_nil) (pg_sub (pe_ix ix_list (pv 4) (pe_call (ok_L_draw t) (hr.mono (by decide)) (by rfl) t.m_L_draw t.F_L_draw.kp t.b_L_draw .nil pass0 (pa_cons (pv 0) (pa_cons (pv 1) pa_nil))) (fun _ _ => rfl)) (pe_call (ok_L_draw t) (hr.mono (by decide)) (by rfl) t.m_L_draw t.F_L_draw.kp t.b_L_draw .nil pass0 (pa_cons (pv 0) (pa_cons (pv 2) pa_nil))) set_list))) pss_nil)
      (pss_one (ps_ret (pv 4))))))))), ?_⟩
    have g0 : Gr (muP p) F H F H := Gr.refl sF
    -- rows, signs, kind
    refine ⟨_, rfl, p, a, b, 4, rfl, hp, ha, hb, by decide, by decide, fun d1 a1 b1 d10 d11 ha1 hb1 => ⟨_, _, rfl, rfl, ?_⟩⟩
    have g1 := g0.set (o := PurseO a1 b1) fp (.inr rfl)
    refine ⟨_, rfl, p, a1, b1, 3, rfl, upd_same, ha1, hb1, by decide, by decide, fun d2 a2 b2 d20 d21 ha2 hb2 => ⟨_, _, rfl, rfl, ?_⟩⟩
    have g2 := g1.set (o := PurseO a2 b2) fp (.inr rfl)
    refine ⟨_, rfl, p, a2, b2, 4, rfl, upd_same, ha2, hb2, by decide, by decide, fun d3 a3 b3 d30 d31 ha3 hb3 => ?_⟩
    have g3 := g2.set (o := PurseO a3 b3) fp (.inr rfl)
    generalize eH3 : upd (upd (upd H p (PurseO a1 b1)) p (PurseO a2 b2)) p (PurseO a3 b3) = H3 at g3
    have hp3 : H3 p = some (PurseO a3 b3) := by rw [← eH3]; exact upd_same
    have eR : ((1 + d1).toNat : Int) = 1 + d1 := Int.toNat_of_nonneg (by omega)
    have eS : ((2 + d2).toNat : Int) = 2 + d2 := Int.toNat_of_nonneg (by omega)
    generalize hR : (1 + d1).toNat = R at eR
    generalize hS : (2 + d2).toNat = S at eS
    dsimp only
    rw [← eR, ← eS]
    have R4 : R ≤ 4 := by omega
    have R1 : 1 ≤ R := by omega
    have S4 : S ≤ 4 := by omega
    have S2 : 2 ≤ S := by omega
    -- found = []
    refine ⟨nil_le, fun D nD => ?_⟩
    have x0 : MaO H F (upd H3 D (.lst [])) D [] [] [] := ⟨Ow.mk1 g3 nD, List.nodup_nil, (fun z => nomatch z), rfl, fun i r es h _ => (by cases h), All2.nil⟩
    have g4 := g3.own (o := .lst []) nD
    refine ⟨_, rfl, (R : Int), rfl, by omega, by omega, for_range (lo := 0) (n := ((R : Int)).toNat) (fun i σ G => ∃ (F1 : Hp) (rs : List Addr) (ess : List (List V)) (M : Mach) (a b : Int) (v5 v6 v7 v8 : Option V), σ = [some (.ref p), some (.int R), some (.int S), some (.int d3), some (.ref D), v5, v6, v7, v8] ∧
      Gr (muP p) F H F1 G ∧ G p = some (PurseO a b) ∧ 0 ≤ a ∧ 0 ≤ b ∧ MaO H F1 G D rs ess M ∧ M.length = i ∧ ∀ row ∈ M, row.length = S ∧ ∀ e ∈ row, EOk R S e) ⟨F, [], [], [], a3, b3, none, none, none, none, rfl, g4, ?_, ha3, hb3, x0, rfl, fun row z => nomatch z⟩ ?_ ?_⟩
    · rw [upd_ne (ne_of_none hp3 nD)]; exact hp3
    · rintro i σ G hi ⟨F1, rs, ess, M, a, b, v5, v6, v7, v8, rfl, g, hpG, ha, hb, x, hl, hM⟩
      -- row = []
      refine ⟨nil_le, fun r nr => ?_⟩
      have gr := g.own (o := .lst []) nr
      have wr : Ow H F1 (upd G r (.lst [])) r (.lst []) := Ow.mk1 g nr
      have xr := x.gr ((Gr.refl (mu := mu0) g.fh).own (o := .lst []) nr) fun c z => z.elim
      have offr := x.offn nr
      have hpr : (upd G r (.lst [])) p = some (PurseO a b) := by rw [upd_ne (ne_of_none hpG nr)]; exact hpG
      refine ⟨_, rfl, (S : Int), rfl, by omega, by omega, for_range (lo := 0) (n := ((S : Int)).toNat) (fun j σ G => ∃ (F1 : Hp) (es : List V) (row : List Ent) (a b : Int) (v7 v8 : Option V), σ = [some (.ref p), some (.int R), some (.int S), some (.int d3), some (.ref D), some (.int (0 + i)), some (.ref r), v7, v8] ∧
        Gr (muP p) F H F1 G ∧ G p = some (PurseO a b) ∧ 0 ≤ a ∧ 0 ≤ b ∧ MaO H F1 G D rs ess M ∧ Ow H F1 G r (.lst es) ∧ IsAll F1 es row ∧ row.length = j ∧ ∀ e ∈ row, EOk R S e) ⟨F1, [], [], a, b, v7, v8, rfl, gr, hpr, ha, hb, xr, wr, All2.nil, rfl, fun e z => nomatch z⟩ ?_ ?_⟩
      · rintro j σ G hj ⟨F1, es, row, a, b, v7, v8, rfl, g, hpG, ha, hb, x, w, al, hl, hrow⟩
        have wp : r ≠ p := fun z => by rw [z] at w; rw [w.n] at hp; cases hp
        have wD : r ≠ D := offr.1
        -- the entry
        refine ⟨_, rfl, _, rfl, p, a, b, (S : Int), rfl, hpG, ha, hb, by omega, by omega, fun e1 a1 b1 e10 e11 ha1 hb1 => ?_⟩
        obtain ⟨g1, k1⟩ := g.drw (a := a1) (b := b1) fp hp
        refine ⟨_, rfl, p, a1, b1, 2, rfl, upd_same, ha1, hb1, by decide, by decide, fun e2 a2 b2 e20 e21 ha2 hb2 => ⟨_, _, rfl, rfl, .inl ⟨by decide, by decide⟩, _, _, rfl, rfl, ?_⟩⟩
        obtain ⟨g2, k2⟩ := g1.drw (a := a2) (b := b2) fp hp
        refine ⟨_, rfl, _, rfl, p, a2, b2, (R : Int), rfl, upd_same, ha2, hb2, by omega, by omega, fun e3 a3 b3 e30 e31 ha3 hb3 => ⟨three_le, fun q0 nq => ?_⟩⟩
        obtain ⟨g3, k3⟩ := g2.drw (a := a3) (b := b3) fp hp
        have k := (k1.trans k2).trans k3
        have x3 := x.gr k (x.off hp)
        have w3 := w.call k wp
        have hp3 : (upd (upd (upd G p (PurseO a1 b1)) p (PurseO a2 b2)) p (PurseO a3 b3)) p = some (PurseO a3 b3) := upd_same
        generalize upd (upd (upd G p (PurseO a1 b1)) p (PurseO a2 b2)) p (PurseO a3 b3) = G3 at g3 k x3 w3 hp3 nq
        have g4 := g3.new (o := .tup [.int e1, .int (2 * e2 - 1), .int e3]) nq
        have k4 := (Gr.refl (mu := mu0) g3.fh).new (o := .tup [.int e1, .int (2 * e2 - 1), .int e3]) nq
        have x4 := x3.gr k4 fun c z => z.elim
        have w4 := w3.call k4 fun z => z
        have hp4 := k4.fr _ _ hp3 fun z => z
        have ee : Is (upd F1 q0 (.tup [.int e1, .int (2 * e2 - 1), .int e3])) (.ref q0) (Ent.go e1 (2 * e2 - 1) e3) := ⟨q0, rfl, upd_same⟩
        have eo : EOk R S (Ent.go e1 (2 * e2 - 1) e3) := ⟨fun p w r z => by cases z; exact ⟨⟨e10, e11⟩, by omega, e30, e31⟩⟩
        have al4 := al.up k4.ff
        generalize upd F1 q0 (.tup [.int e1, .int (2 * e2 - 1), .int e3]) = F4 at g4 k4 x4 w4 ee al4
        generalize upd G3 q0 (.tup [.int e1, .int (2 * e2 - 1), .int e3]) = G4 at g4 k4 x4 w4 hp4
        -- what is the same in both ways: the entry comes in
        have fin : ∀ (F5 G5 : Hp) (q5 : Addr) (e5 : Ent) (a5 b5 : Int), Gr (muP p) F H F5 G5 → G5 p = some (PurseO a5 b5) → 0 ≤ a5 → 0 ≤ b5 → MaO H F5 G5 D rs ess M → Ow H F5 G5 r (.lst es) → IsAll F5 es row → Is F5 (.ref q5) e5 → EOk R S e5 →
            ∃ (F1 : Hp) (es1 : List V) (row : List Ent) (a b : Int) (v7 v8 : Option V), [some (.ref p), some (.int R), some (.int S), some (.int d3), some (.ref D), some (.int (0 + i)), some (.ref r), some (.int (0 + j)), some (.ref q5)] = [some (.ref p), some (.int R), some (.int S), some (.int d3), some (.ref D), some (.int (0 + i)), some (.ref r), v7, v8] ∧
              Gr (muP p) F H F1 (upd G5 r (.lst (es ++ [.ref q5]))) ∧ (upd G5 r (.lst (es ++ [.ref q5]))) p = some (PurseO a b) ∧ 0 ≤ a ∧ 0 ≤ b ∧ MaO H F1 (upd G5 r (.lst (es ++ [.ref q5]))) D rs ess M ∧ Ow H F1 (upd G5 r (.lst (es ++ [.ref q5]))) r (.lst es1) ∧ IsAll F1 es1 row ∧ row.length = j + 1 ∧ ∀ e ∈ row, EOk R S e := by
          intro F5 G5 q5 e5 a5 b5 g5 hp5 ha5 hb5 x5 w5 al5 ie5 eo5
          refine ⟨F5, es ++ [.ref q5], row ++ [e5], a5, b5, _, _, rfl, g5.set w5.f (.inl w5.n), by rw [upd_ne (Ne.symm wp)]; exact hp5, ha5, hb5, x5.gr (mu := fun c => c = r) ((Gr.refl g5.fh).set w5.f (.inr rfl)) (fun c z => by rw [show c = r from z]; exact offr), w5.set, al5.app (All2.one ie5), by rw [List.length_append, hl]; rfl, fun e z => ?_⟩
          rcases List.mem_append.mp z with z | z
          · exact hrow e z
          · rw [List.mem_singleton.mp z]; exact eo5
        have ll : ∀ G5 F5 : Hp, IsAll F5 es row → es.length < sizeLine := fun _ _ z => by rw [z.1, hl]; exact lt_size (by omega)
        refine ⟨_, rfl, _, _, rfl, rfl, _, rfl, ?_⟩
        refine ite2 (fun c => ?_) (fun c => ?_)
        · refine ⟨_, rfl, _, rfl, _, _, rfl, rfl, .inl ⟨by decide, by decide⟩, _, _, rfl, rfl, p, a3, b3, _, rfl, hp4, ha3, hb3, by omega, by omega, fun e4 a4 b4 e40 e41 ha4 hb4 => ⟨rfl, _, rfl, ?_⟩⟩
          obtain ⟨g5, k5⟩ := g4.drw (a := a4) (b := b4) fp hp
          have x5 := x4.gr k5 (x4.off hp)
          have w5 := w4.call k5 wp
          have al5 := al4.up k5.ff
          have hp5 : (upd G4 p (PurseO a4 b4)) p = some (PurseO a4 b4) := upd_same
          generalize upd G4 p (PurseO a4 b4) = G5 at g5 k5 x5 w5 hp5
          refine ite2 (fun c => ?_) (fun c => ?_)
          · refine ⟨nil_le, fun q2 nq2 => ?_⟩
            have g6 := g5.new (o := .tup []) nq2
            have k6 := (Gr.refl (mu := mu0) g5.fh).new (o := .tup []) nq2
            have x6 := x5.gr k6 fun c z => z.elim
            have w6 := w5.call k6 fun z => z
            refine ⟨_, rfl, .inl ⟨rfl, _, SqL.of w6.h⟩, _, rfl, r, _, _, rfl, rfl, w6.h, ll G5 _ al5, ?_⟩
            exact fin _ _ q2 .emp a4 b4 g6 (k6.fr _ _ hp5 fun z => z) ha4 hb4 x6 w6 (al5.up k6.ff) ⟨q2, rfl, upd_same⟩ ⟨fun p w r z => by cases z⟩
          · refine ⟨_, rfl, .inl ⟨rfl, _, SqL.of w5.h⟩, _, rfl, r, _, _, rfl, rfl, w5.h, ll G5 _ al5, ?_⟩
            exact fin _ _ q0 _ a4 b4 g5 hp5 ha4 hb4 x5 w5 al5 (ee.up k5.ff) eo
        · refine ifF rfl ?_
          refine ⟨_, rfl, .inl ⟨rfl, _, SqL.of w4.h⟩, _, rfl, r, _, _, rfl, rfl, w4.h, ll G4 _ al4, ?_⟩
          exact fin _ _ q0 _ a3 b3 g4 hp4 ha3 hb3 x4 w4 al4 ee eo
      · rintro σ G ⟨F1, es, row, a, b, v7, v8, rfl, g, hpG, ha, hb, x, w, al, hl2, hrow⟩
        have hl2 : row.length = S := by rw [hl2]; exact Int.toNat_natCast S
        refine ⟨_, rfl, .inl ⟨rfl, _, SqL.of x.ow.h⟩, _, rfl, D, _, _, rfl, rfl, x.ow.h, by rw [List.length_map, x.len, x.dat.1, hl]; exact lt_size (by omega), ?_⟩
        have e1 : rs.map V.ref ++ [V.ref r] = (rs ++ [r]).map V.ref := by rw [List.map_append]; rfl
        rw [e1]
        have pD : p ≠ D := fun z => by rw [z] at hp; rw [x.ow.n] at hp; cases hp
        refine ⟨F1, rs ++ [r], ess ++ [es], M ++ [row], a, b, _, _, _, _, rfl, g.set x.ow.f (.inl x.ow.n), by rw [upd_ne pD]; exact hpG, ha, hb, x.add w offr al, by rw [List.length_append, hl]; rfl, fun row' z => ?_⟩
        rcases List.mem_append.mp z with z | z
        · exact hM row' z
        · rw [List.mem_singleton.mp z]; exact ⟨hl2, hrow⟩
    · rintro σ G ⟨F1, rs, ess, M, a, b, v5, v6, v7, v8, rfl, g, hpG, ha, hb, x, hl, hM⟩
      have hl : M.length = R := by rw [hl]; exact Int.toNat_natCast R
      have mok : ∀ M' : Mach, M'.length = R → (∀ row ∈ M', row.length = S ∧ ∀ e ∈ row, EOk R S e) → MOk M' R S := fun M' h1 h2 => ⟨R1, R4, S2, S4, h1, fun r z => (h2 r z).1, fun r z => (h2 r z).2⟩
      refine ⟨_, rfl, rfl, _, rfl, ?_⟩
      refine ite2 (fun c => ?_) (fun c => ?_)
      · refine ⟨nil_le, fun q2 nq2 => ?_⟩
        have g6 := g.new (o := .tup []) nq2
        have k6 := (Gr.refl (mu := mu0) g.fh).new (o := .tup []) nq2
        have x6 := x.gr k6 fun c z => z.elim
        have hp6 := k6.fr _ _ hpG fun z => z
        have i6 : Is (upd F1 q2 (.tup [])) (.ref q2) Ent.emp := ⟨q2, rfl, upd_same⟩
        generalize upd F1 q2 (.tup []) = F6 at g6 k6 x6 i6
        generalize upd G q2 (.tup []) = G6 at g6 k6 x6 hp6
        refine ⟨_, rfl, _, rfl, _, rfl, p, a, b, (R : Int), rfl, hp6, ha, hb, by omega, by omega, fun i1 a1 b1 i10 i11 ha1 hb1 => ?_⟩
        obtain ⟨g7, k7⟩ := g6.drw (a := a1) (b := b1) fp hp
        have x7 := x6.gr k7 (x6.off hp)
        have hi : i1.toNat < rs.length := by rw [x.len, x.dat.1, hl]; omega
        have hrs : rs[i1.toNat]? = some rs[i1.toNat] := List.getElem?_eq_getElem hi
        have hes : ess[i1.toNat]? = some (ess[i1.toNat]'(by rw [← x.len]; exact hi)) := List.getElem?_eq_getElem _
        obtain ⟨row, hrow, al⟩ := x7.dat.get' hes
        have w7 := x7.rows _ _ _ hrs hes
        refine ⟨D, _, i1, _, rfl, rfl, SqL.of x7.ow.h, at_of (Int.toNat_of_nonneg i10).symm (by rw [List.getElem?_map, hrs]; rfl), ?_⟩
        refine ⟨_, rfl, _, rfl, p, a1, b1, (S : Int), rfl, upd_same, ha1, hb1, by omega, by omega, fun i2 a2 b2 i20 i21 ha2 hb2 => ?_⟩
        obtain ⟨g8, k8⟩ := g7.drw (a := a2) (b := b2) fp hp
        have x8 := x7.gr k8 (x7.off hp)
        have w8 := x8.rows _ _ _ hrs hes
        have ml : row ∈ M := List.mem_of_getElem? hrow
        have lr := (hM row ml).1
        refine ⟨_, _, i2, i2.toNat, rfl, rfl, w8.h, ixN_of i20 (by rw [al.1, lr]; exact i21), ?_⟩
        have hp8 : (upd (upd G6 p (PurseO a1 b1)) p (PurseO a2 b2)) p = some (PurseO a2 b2) := upd_same
        generalize upd (upd G6 p (PurseO a1 b1)) p (PurseO a2 b2) = G8 at g8 k8 x8 w8 hp8
        have pr : p ≠ rs[i1.toNat] := fun z => by rw [z] at hp; rw [w8.n] at hp; cases hp
        refine ⟨_, rfl, ?_⟩
        refine q F6 _ D rs _ _ R S a2 b2 (g8.set w8.f (.inl w8.n)) (by rw [upd_ne pr]; exact hp8) ha2 hb2 (mok _ (by rw [List.length_set]; exact hl) fun row' z => ?_) (x8.put (j := i2.toNat) hrs hes hrow i6)
        rcases List.mem_or_eq_of_mem_set z with z | rfl
        · exact hM row' z
        · refine ⟨by rw [List.length_set]; exact lr, fun e z => ?_⟩
          rcases List.mem_or_eq_of_mem_set z with z | rfl
          · exact (hM row ml).2 e z
          · exact ⟨fun p w r z => by cases z⟩
      · exact ⟨_, rfl, q F1 G D rs ess M R S a b g hpG ha hb (mok M hl hM) x⟩
/-! ### small things -/
theorem ln {H : Hp} {p q : Addr} {o u : HO} (n : H q = none) (h : H p = some o) : upd H q u p = some o := (upd_ne (ne_of_none h n)).trans h
theorem kt_int_int {K : PySem.W.Frag} : PySem.W.kitOne K (.type "int") (.type "int") = some true := kit_ty (by decide +kernel)
theorem kt_int_bool {K : PySem.W.Frag} : PySem.W.kitOne K (.type "int") (.type "bool") = some false := kit_ty (by decide +kernel)
theorem kt_tup {K : PySem.W.Frag} : PySem.W.kitOne K (.type "tuple") (.type "tuple") = some true := kit_ty (by decide +kernel)
theorem kt_list {K : PySem.W.Frag} : PySem.W.kitOne K (.type "list") (.type "list") = some true := kit_ty (by decide +kernel)
theorem gr_purse {H H1 : Hp} (s : Same H H1) : Gr mu0 H H H H1 := ⟨fun _ _ h => h, s, fun _ _ h => .inl h, fun c o h _ => s c o h, fun c h => s.free h⟩
theorem at_end {xs : List V} {k : Nat} {v : V} (l : xs.length = k + 1) (h : xs[k]? = some v) : atI xs (-1) = some v := by
  have e : ixN xs.length (-1) = some k := by
    unfold ixN
    rw [if_neg (by decide), if_pos (by omega)]
    congr 1
    omega
  unfold atI
  rw [e]
  exact h
theorem cut_all {xs : List V} {j : Nat} (h : xs.length ≤ j) : cutV xs none (some (j : Int)) = xs := by
  unfold cutV
  have e1 : HT.sIx xs.length 0 none = 0 := rfl
  have e2 : HT.sIx xs.length xs.length (some (j : Int)) = xs.length := by
    simp only [HT.sIx]
    rw [if_neg (by omega), Int.toNat_natCast]
    omega
  rw [e1, e2, List.drop_zero, Nat.sub_zero, List.take_length]
theorem map_take_succ {α β : Type} {f : α → β} {xs : List α} {i : Nat} {x : α} (h : xs[i]? = some x) : (xs.take (i + 1)).map f = (xs.take i).map f ++ [f x] := by
  rw [List.take_add_one, h, List.map_append]; rfl
theorem cut_1 {xs : List V} : cutV xs (some 1) none = xs.drop 1 := by
  unfold cutV
  have e2 : HT.sIx xs.length xs.length none = xs.length := rfl
  rw [e2]
  cases xs with
  | nil => simp
  | cons x xs =>
    have e1 : HT.sIx (x :: xs).length 0 (some 1) = 1 := by
      simp only [HT.sIx, List.length_cons]
      rw [if_neg (by decide), show (1 : Int).toNat = 1 from rfl]
      omega
    rw [e1]
    show (xs.take (xs.length + 1 - 1)) = xs
    rw [Nat.add_sub_cancel, List.take_length]
theorem cut32 : ¬ (HT.sIx 3 0 none = 0 ∧ HT.sIx 3 3 (some 2) = 3) := by decide
theorem Gr.frzS {mu : Addr → Prop} {F H F1 H1 : Hp} (g : Gr mu F H F1 H1) (P : Addr → Prop) [DecidablePred P] (h : ∀ c, P c → H c = none ∧ F1 c = none) : Gr mu F H (fun c => if P c then H1 c else F1 c) H1 ∧ Same F1 (fun c => if P c then H1 c else F1 c) := by
  have s : Same F1 (fun c => if P c then H1 c else F1 c) := fun c o e => by
    by_cases p : P c
    · rw [(h c p).2] at e; cases e
    · simp only [p, if_false]; exact e
  refine ⟨⟨fun c o e => s c o (g.ff c o e), fun c o e => ?_, fun c o e => ?_, g.fr, g.th⟩, s⟩
  · by_cases p : P c
    · simp only [p, if_true] at e; exact e
    · simp only [p, if_false] at e; exact g.fh c o e
  · by_cases p : P c
    · exact .inr (h c p).1
    · simp only [p, if_false] at e; exact g.nw c o e
/-! ### what a machine does -/
structure Cfg where
  r : Int
  s : Int
  l : List PI
def entOf (M : Mach) (c : Cfg) : Ent := ((M[c.r.toNat]?.getD [])[((look c.l c.s).getD 0).toNat]?).getD .emp
def stepC (M : Mach) (c : Cfg) : Option Cfg := match entOf M c with
  | .emp => none
  | .go p w r => some ⟨r, c.s + w, put c.l c.s p⟩
structure CfOk (R S : Nat) (c : Cfg) : Prop where
  r0 : 0 ≤ c.r
  r1 : c.r < R
  nd : Nd c.l
  sg : ∀ q ∈ c.l, 0 ≤ q.b ∧ q.b < S
theorem CfOk.look {R S : Nat} {c : Cfg} (h : CfOk R S c) (s1 : 1 ≤ S) (x : Int) : 0 ≤ (look c.l x).getD 0 ∧ (look c.l x).getD 0 < S := by
  cases e : E.look c.l x with
  | none => simp only [Option.getD_none]; omega
  | some v => exact h.sg _ (mem_look e)
theorem CfOk.ent {M : Mach} {R S : Nat} {c : Cfg} (hM : MOk M R S) (h : CfOk R S c) : ∃ row, M[c.r.toNat]? = some row ∧ 0 ≤ (E.look c.l c.s).getD 0 ∧ row[((E.look c.l c.s).getD 0).toNat]? = some (entOf M c) ∧ EOk R S (entOf M c) := by
  have hr : c.r.toNat < M.length := by have := h.r0; have := h.r1; have := hM.len; omega
  have h1 : M[c.r.toNat]? = some M[c.r.toNat] := List.getElem?_eq_getElem hr
  have m1 := List.mem_of_getElem? h1
  obtain ⟨s0, s1⟩ := h.look (by have := hM.s2; omega) c.s
  have hs : ((E.look c.l c.s).getD 0).toNat < M[c.r.toNat].length := by rw [hM.row _ m1]; omega
  have h2 : M[c.r.toNat][((E.look c.l c.s).getD 0).toNat]? = some _ := List.getElem?_eq_getElem hs
  have e : entOf M c = M[c.r.toNat][((E.look c.l c.s).getD 0).toNat] := by
    unfold entOf
    rw [h1, Option.getD_some, h2, Option.getD_some]
  exact ⟨_, h1, s0, by rw [e]; exact h2, by rw [e]; exact hM.ent _ m1 _ (List.mem_of_getElem? h2)⟩
theorem CfOk.step {M : Mach} {R S : Nat} {c c' : Cfg} (hM : MOk M R S) (h : CfOk R S c) (e : stepC M c = some c') : CfOk R S c' := by
  obtain ⟨row, _, _, _, eo⟩ := h.ent hM
  unfold stepC at e
  split at e
  · cases e
  · rename_i p w r he
    cases e
    obtain ⟨o1, _, o3, o4⟩ := eo.ok _ _ _ he
    refine ⟨o3, o4, nd_put h.nd _ _, fun q m => ?_⟩
    rcases mem_put m with m | rfl
    · exact h.sg q m
    · exact o1
/-- the setups behind 0, 1, .. n steps, up to the end -/
def trace (M : Mach) : Nat → Cfg → List Cfg
  | 0, c => [c]
  | n + 1, c => c :: (match stepC M c with | none => [] | some c' => trace M n c')
/-- a setup with its signs in a dict -/
def cfAt (H : Hp) (v : V) (c : Cfg) : Prop := ∃ t d, v = .ref t ∧ H t = some (.tup [.int c.r, .int c.s, .ref d]) ∧ H d = some (.dK (dI c.l))
theorem cfAt.up {H H' : Hp} {v : V} {c : Cfg} (h : cfAt H v c) (s : Same H H') : cfAt H' v c := by
  obtain ⟨t, d, e, h1, h2⟩ := h
  exact ⟨t, d, e, s _ _ h1, s _ _ h2⟩
theorem dict_copy {H : Hp} {a : Addr} {l : List PI} (h : H a = some (.dK (dI l))) : Rd H a (.dK (dI l)) := .inl h
theorem stepC_none {M : Mach} {c : Cfg} : stepC M c = none ↔ entOf M c = .emp := by
  unfold stepC
  cases entOf M c with
  | emp => exact ⟨fun _ => rfl, fun _ => rfl⟩
  | go p w r => exact ⟨(fun h => nomatch h), (fun h => nomatch h)⟩
theorem stepC_go {M : Mach} {c : Cfg} {p w r : Int} (h : entOf M c = .go p w r) : stepC M c = some ⟨r, c.s + w, put c.l c.s p⟩ := by
  unfold stepC
  rw [h]
theorem mach_ent {F : Hp} {m : V} {M : Mach} {i j : Nat} {row : List Ent} {e : Ent} (hm : Is F m M) (h1 : M[i]? = some row) (h2 : row[j]? = some e) : ∃ am rs ra es v, m = .ref am ∧ F am = some (.lst rs) ∧ rs[i]? = some (.ref ra) ∧ F ra = some (.lst es) ∧ es[j]? = some v ∧ Is F v e := by
  obtain ⟨am, rs, e1, ham, hrs⟩ := hm
  obtain ⟨x, hx, ra, es, rfl, hra, hes⟩ := hrs.get h1
  obtain ⟨v, hv, hve⟩ := hes.get h2
  exact ⟨am, rs, ra, es, v, e1, ham, hx, hra, hv, hve⟩
theorem getD_int (o : Option Int) (x : Int) : (o.map V.int).getD (.int x) = .int (o.getD x) := by cases o <;> rfl
theorem trace_end {M : Mach} {c : Cfg} (h : stepC M c = none) : ∀ n, trace M n c = [c]
  | 0 => rfl
  | n + 1 => by
    unfold trace
    rw [h]
theorem trace_go {M : Mach} {c c' : Cfg} (h : stepC M c = some c') (n : Nat) : trace M (n + 1) c = c :: trace M n c' := by
  show c :: (match stepC M c with | none => [] | some c' => trace M n c') = _
  rw [h]
theorem size_dI {l : List PI} {n : Nat} (h : l.length ≤ n) (k : n ≤ 1000000) : (dI l).length < sizeLine := by
  unfold dI; rw [List.length_map]; exact lt_size (by omega)
/-! ### runs from the empty strip -/
def c0 : Cfg := ⟨0, 0, []⟩
def stepsC (M : Mach) : Nat → Option Cfg
  | 0 => some c0
  | k + 1 => (stepsC M k).bind (stepC M)
theorem stepsC_next {M : Mach} {k : Nat} {c : Cfg} (h : stepsC M k = some c) : stepsC M (k + 1) = stepC M c := by
  show (stepsC M k).bind (stepC M) = _
  rw [h]; rfl
theorem stepsC_back {M : Mach} {k : Nat} {c : Cfg} (h : stepsC M (k + 1) = some c) : ∃ b, stepsC M k = some b ∧ stepC M b = some c := Option.bind_eq_some_iff.mp h
theorem stepsC_end {M : Mach} {k : Nat} {c : Cfg} (h : stepsC M k = some c) (e : stepC M c = none) : ∀ j, stepsC M (k + 1 + j) = none
  | 0 => by rw [Nat.add_zero, stepsC_next h]; exact e
  | j + 1 => by
    show (stepsC M (k + 1 + j)).bind (stepC M) = _
    rw [stepsC_end h e j]; rfl
theorem c0_ok {R S : Nat} (r1 : 1 ≤ R) : CfOk R S c0 := ⟨Int.le_refl _, by show (0 : Int) < R; omega, nd_nil, fun z m => nomatch m⟩
theorem stepC_len {M : Mach} {c c' : Cfg} (e : stepC M c = some c') : c'.l.length ≤ c.l.length + 1 := by
  unfold stepC at e
  split at e
  · cases e
  · cases e
    exact put_len _ _ _
theorem stepsC_ok {M : Mach} {R S : Nat} (hM : MOk M R S) : ∀ {k : Nat} {c : Cfg}, stepsC M k = some c → CfOk R S c ∧ c.l.length ≤ k
  | 0, c, h => by
    cases h
    exact ⟨c0_ok hM.r1, Nat.le_refl _⟩
  | k + 1, c, h => by
    obtain ⟨b, hb, e⟩ := stepsC_back h
    obtain ⟨i1, i2⟩ := stepsC_ok hM hb
    have := stepC_len e
    exact ⟨i1.step hM e, by omega⟩
/-- where a run of at most n steps stands: behind k of them, at c -/
structure Gone (M : Mach) (n k : Nat) (c : Cfg) : Prop where
  le : k ≤ n
  stp : stepsC M k = some c
  fin : stepC M c = none ∨ k = n
theorem Gone.lt {M : Mach} {n k k' : Nat} {c c' : Cfg} (a : Gone M n k c) (b : Gone M n k' c') : ¬ k < k' := fun l => by
  rcases a.fin with e | e
  · have h := stepsC_end a.stp e (k' - (k + 1))
    rw [show k + 1 + (k' - (k + 1)) = k' by omega, b.stp] at h
    cases h
  · have := b.le; omega
theorem Gone.uniq {M : Mach} {n k k' : Nat} {c c' : Cfg} (a : Gone M n k c) (b : Gone M n k' c') : k = k' ∧ c = c' := by
  have e : k = k' := by have := a.lt b; have := b.lt a; omega
  subst e
  have h := a.stp
  rw [b.stp] at h
  cases h
  exact ⟨rfl, rfl⟩
/-! ### a strip without noughts -/
def pop (l : List PI) (x : Int) : List PI := l.filter fun p => decide (p.a ≠ x)
theorem dI_pop (l : List PI) (x : Int) : dropK (dI l) (Sum.inl x) = dI (pop l x) := by
  unfold dropK dI pop
  rw [List.filter_map]
  congr 2
  funext p
  have e : ((Sum.inl p.a : Key) ≠ Sum.inl x) = (p.a ≠ x) := propext ⟨fun h z => h (by rw [z]), fun h z => h (Sum.inl.inj z)⟩
  simp only [Function.comp, e]
theorem look_pop (x y : Int) : ∀ l : List PI, look (pop l x) y = if y = x then none else look l y
  | [] => by show look [] y = _; rw [look_nil]; split <;> rfl
  | p :: l => by
    have ih := look_pop x y l
    unfold pop at ih ⊢
    rw [List.filter_cons, look_cons]
    by_cases e : p.a = x
    · rw [if_neg (by simp [e]), ih]
      by_cases f : y = x
      · rw [if_pos f, if_pos f]
      · rw [if_neg f, if_neg f, if_neg (by rw [e]; exact fun z => f z.symm)]
    · rw [if_pos (by simp [e]), look_cons, ih]
      by_cases f : p.a = y
      · rw [if_pos f, if_pos f, if_neg (by rw [← f]; exact e)]
      · rw [if_neg f, if_neg f]
theorem nd_pop {l : List PI} (h : Nd l) (x : Int) : Nd (pop l x) := List.Sublist.nodup (List.Sublist.map _ List.filter_sublist) h
theorem nd_nodup {l : List PI} (h : Nd l) : l.Nodup := (List.pairwise_map.mp h).imp fun z e => z (by rw [e])
structure ZRel (l l' : List PI) : Prop where
  n : Nd l
  n' : Nd l'
  z : ∀ q ∈ l', q.b ≠ 0
  lk : ∀ x, (look l x).getD 0 = (look l' x).getD 0
theorem ZRel.nil : ZRel [] [] := ⟨nd_nil, nd_nil, fun q m => (nomatch m), fun x => rfl⟩
theorem ZRel.put {l l' : List PI} (h : ZRel l l') (x : Int) {v : Int} (e : v ≠ 0) : ZRel (put l x v) (put l' x v) := by
  refine ⟨nd_put h.n _ _, nd_put h.n' _ _, fun q m => ?_, fun y => ?_⟩
  · rcases mem_put m with m | rfl
    · exact h.z q m
    · exact e
  · rw [look_put, look_put]
    split
    · rfl
    · exact h.lk y
theorem ZRel.pop {l l' : List PI} (h : ZRel l l') (x : Int) : ZRel (E.put l x 0) (pop (E.put l' x 0) x) := by
  refine ⟨nd_put h.n _ _, nd_pop (nd_put h.n' _ _) _, fun q m => ?_, fun y => ?_⟩
  · obtain ⟨m, e⟩ := List.mem_filter.mp m
    have e : q.a ≠ x := of_decide_eq_true e
    rcases mem_put m with m | rfl
    · exact h.z q m
    · exact absurd rfl e
  · rw [look_put, look_pop, look_put]
    split
    · rfl
    · exact h.lk y
theorem ZRel.perm {l l' : List PI} (h : ZRel l l') : (l.filter nz).Perm l' := by
  refine (List.perm_ext_iff_of_nodup (List.Sublist.nodup List.filter_sublist (nd_nodup h.n)) (nd_nodup h.n')).mpr fun q => ?_
  have k := h.lk q.a
  rw [List.mem_filter]
  constructor
  · rintro ⟨m, e⟩
    have e : q.b ≠ 0 := of_decide_eq_true e
    rw [look_mem h.n m, Option.getD_some] at k
    cases f : look l' q.a with
    | none => rw [f] at k; exact absurd k e
    | some z =>
      rw [f, Option.getD_some] at k
      have m' := mem_look f
      rw [← k] at m'
      exact m'
  · intro m
    have e := h.z q m
    rw [look_mem h.n' m, Option.getD_some] at k
    cases f : look l q.a with
    | none => rw [f] at k; exact absurd k.symm e
    | some z =>
      rw [f, Option.getD_some] at k
      have m' := mem_look f
      rw [k] at m'
      exact ⟨m', decide_eq_true e⟩
theorem ZRel.told {l l' : List PI} (h : ZRel l l') : told l = srt l' :=
  srt_uniq (srt_srt _) (srt_srt _) (((srt_perm _).trans h.perm).trans (srt_perm _).symm)
theorem ZRel.len {l l' : List PI} (h : ZRel l l') : l'.length ≤ l.length := by
  rw [← h.perm.length_eq]; exact List.length_filter_le _ _
/-- a setup with its signs other than 0 in a dict -/
def zAt (H : Hp) (v : V) (c : Cfg) : Prop := ∃ t d l', v = .ref t ∧ H t = some (.tup [.int c.r, .int c.s, .ref d]) ∧ H d = some (.dK (dI l')) ∧ ZRel c.l l'
theorem zAt.up {H H' : Hp} {v : V} {c : Cfg} (h : zAt H v c) (s : Same H H') : zAt H' v c := by
  obtain ⟨t, d, l', e, h1, h2, h3⟩ := h
  exact ⟨t, d, l', e, s _ _ h1, s _ _ h2, h3⟩
/-- the setups behind 0, 1, .. k steps -/
def ZAll (H : Hp) (M : Mach) (xs : List V) (k : Nat) : Prop := xs.length = k + 1 ∧ ∀ i v, xs[i]? = some v → ∃ c, stepsC M i = some c ∧ zAt H v c
theorem ZAll.up {H H' : Hp} {M : Mach} {xs : List V} {k : Nat} (h : ZAll H M xs k) (s : Same H H') : ZAll H' M xs k :=
  ⟨h.1, fun i v e => by obtain ⟨c, a, b⟩ := h.2 i v e; exact ⟨c, a, b.up s⟩⟩
theorem ZAll.one {H : Hp} {M : Mach} {v : V} (h : zAt H v c0) : ZAll H M [v] 0 := ⟨rfl, fun i u e => by
  cases i with
  | zero => cases e; exact ⟨c0, rfl, h⟩
  | succ n => cases e⟩
theorem ZAll.app {H : Hp} {M : Mach} {xs : List V} {k : Nat} {v : V} {c : Cfg} (h : ZAll H M xs k) (e : stepsC M (k + 1) = some c) (z : zAt H v c) : ZAll H M (xs ++ [v]) (k + 1) := by
  refine ⟨by rw [List.length_append, h.1]; rfl, fun i u hu => ?_⟩
  by_cases l : i < xs.length
  · rw [List.getElem?_append_left l] at hu
    exact h.2 i u hu
  · rw [List.getElem?_append_right (by omega)] at hu
    cases j : i - xs.length with
    | zero =>
      rw [j] at hu
      cases hu
      have := h.1
      rw [show i = k + 1 by omega]
      exact ⟨c, e, z⟩
    | succ n => rw [j] at hu; cases hu
theorem ZAll.get {H : Hp} {M : Mach} {xs : List V} {k i : Nat} {c : Cfg} (h : ZAll H M xs k) (l : i ≤ k) (e : stepsC M i = some c) : ∃ v, xs[i]? = some v ∧ zAt H v c := by
  have l' : i < xs.length := by rw [h.1]; omega
  obtain ⟨c', e', z⟩ := h.2 i _ (List.getElem?_eq_getElem l')
  rw [e] at e'
  cases e'
  exact ⟨_, List.getElem?_eq_getElem l', z⟩
/-- the entry at c, looked up by a strip of the same signs -/
theorem CfOk.ent' {M : Mach} {R S : Nat} {c : Cfg} {l' : List PI} (hM : MOk M R S) (h : CfOk R S c) (z : ZRel c.l l') : ∃ row, M[c.r.toNat]? = some row ∧ 0 ≤ (E.look l' c.s).getD 0 ∧ row[((E.look l' c.s).getD 0).toNat]? = some (entOf M c) ∧ EOk R S (entOf M c) := by
  rw [← z.lk]
  exact h.ent hM
/-! ### words -/
/-- a text that may stand in a datum -/
structure TStr where
  x : Str
  ok : PyData.strOk x = true
  deriving DecidableEq
instance : Dat TStr where
  rep := fun _ v d => v = .str d.x
  mono := fun _ h => h
  py := fun d => .str d.x
  dp := fun h => h ▸ .str _
  can := fun d => d.ok
  dep := 0
  depth := fun _ => Nat.le_refl _
  eqv := fun a b => by
    obtain ⟨a, _⟩ := a; obtain ⟨b, _⟩ := b
    simp [PyData.eqv]
/-- what is due of a run -/
abbrev Res := T3 TStr Int Setup
def tEnds : TStr := ⟨"ends", by decide +kernel⟩
def tOn : TStr := ⟨"on", by decide +kernel⟩
def dueOf (M : Mach) (n k : Nat) (c : Cfg) : Res := if entOf M c = Ent.emp then ⟨tEnds, k, c.r, c.s, told c.l⟩ else ⟨tOn, n, c.r, c.s, told c.l⟩
def sp_gone (C : Addr) : Sp := fun vs H Q _ => ∃ (F : Hp) (m : V) (M : Mach) (R S n : Nat), vs = [m, .int n] ∧ Same F H ∧ Is F m M ∧ MOk M R S ∧ n ≤ 5000 ∧
  ∀ (F' H' : Hp) (u g d : Addr) (k : Nat) (c : Cfg), Gr mu0 F H F' H' → F' u = some (.tup [.ref g, .bl (decide (entOf M c = Ent.emp))]) → H g = none → H d = none → F' g = none → F' d = none → GoAt C H' g d m c.r c.s c.l k → Gone M n k c → Q (.ref u) H'
theorem ok_gone (t : Tx K mg) : FnOk P w K mg base CX0 3 t.a_gone t.fd_gone ["machine", "most"] (sp_gone t.C_Goer) := by
  refine t.F_gone.ok sc_gone (fun vs H Q E h => ?_) (fun cdv A outer s H vs Q E hr h => ?_)
  · obtain ⟨F, m, M, R, S, n, rfl, _⟩ := h
    rfl
  · obtain ⟨F, m, M, R, S, n, rfl, sF, hm, hM, hn, q⟩ := h
    refine ⟨_, (pss_cons (ps_set (i := 2) sc_gone.nd rfl (by first | exact Or.inl rfl | exact Or.inr rfl) (pe_make t.M_Goer (ok_Goer_init t) (hr.mono (by decide)) (by rfl) t.m_Goer t.b_Goer_init .nil pass0 (pa_cons (pv 0) (pa_cons (pe_tup (pa_cons pe_int (pa_cons pe_int (pa_cons (pe_lst pa_nil) pa_nil)))) pa_nil))))
      (pss_cons (ps_set (i := 3) sc_gone.nd rfl (by first | exact Or.inl rfl | exact Or.inr rfl) pe_bl)
      (pss_cons (ps_while PassesOwn.never (PW.pt (pw_and (pt_val (pv 3)) (pw_and1 (pt_cmpR op_lt (pe_fld (pv 2) rfl) (pv 1) (nomark _))))) (pss_one (ps_set (i := 3) sc_gone.nd rfl (by first | exact Or.inl rfl | exact Or.inr rfl) (pe_meth0 (pv 2) t.cl_Goer t.M_Goer_step (ok_Goer_step t) (hr.mono (by decide)) t.b_Goer_step .nil pass0))))
      (pss_one (ps_ret (pe_tup (pa_cons (pv 2) (pa_cons (pe_cmpR (op_eqD hr.units) (pe_meth0 (pv 2) t.cl_Goer t.M_Goer_entry (ok_Goer_entry t) (hr.mono (by decide)) t.b_Goer_entry .nil pass0) (pe_tup pa_nil) (nomark _)) pa_nil)))))))), ?_⟩
    have g0 : Gr mu0 F H F H := Gr.refl sF
    -- walk = Goer(machine, (0, 0, []))
    refine ⟨_, rfl, nil_le, fun l nl => ⟨three_le, fun u nu => ?_⟩⟩
    have g1 := g0.new (o := .lst []) nl
    have g2 := g1.new (o := .tup [.int 0, .int 0, .ref l]) nu
    have hx : Is (upd (upd F l (.lst [])) u (.tup [.int 0, .int 0, .ref l])) (.ref u) (⟨0, 0, []⟩ : Setup) := ⟨u, _, _, _, rfl, upd_same, rfl, rfl, l, [], rfl, ln (g1.fh.free nu) upd_same, All2.nil⟩
    generalize upd (upd F l (.lst [])) u (.tup [.int 0, .int 0, .ref l]) = F2 at g2 hx
    generalize upd (upd H l (.lst [])) u (.tup [.int 0, .int 0, .ref l]) = H2 at g2
    refine fun y dy ny ndy ney => ?_
    have g3 := g2.own (o := .own y) ndy
    have ny2 : (upd H2 dy (.own y)) y = none := by rw [upd_ne ney.symm]; exact ny
    have g4 := g3.own (o := .ins t.C_Goer dy []) ny2
    have hy : H y = none := g2.th _ ny
    have fy : F2 y = none := g2.fh.free ny
    refine ⟨F2, y, dy, m, .ref u, _, rfl, upd_same, fy, g4.fh, hx, fun d H5 nd5 g5 ga => ⟨rfl, ?_⟩⟩
    have g6 := g4.thn g5 fun c z => .inr (by rw [show c = y from z]; exact hy)
    have hd : H d = none := g4.th _ nd5
    have fd : F2 d = none := g4.fh.free nd5
    have hm2 := hm.up g2.ff
    -- going = True; while going and walk.steps < most
    refine ⟨fun k σ G => ∃ (F1 : Hp) (j : Nat) (c : Cfg) (b : Bool), k = 2 * (n - j) + b.toNat ∧ σ = [some m, some (.int n), some (.ref y), some (.bl b)] ∧ Gr mu0 F H F1 G ∧ F1 y = none ∧ F1 d = none ∧ Same F2 F1 ∧ GoAt t.C_Goer G y d m c.r c.s c.l j ∧ stepsC M j = some c ∧ j ≤ n ∧ (b = false → stepC M c = none),
      ⟨_, F2, 0, c0, true, rfl, rfl, g6, fy, fd, Same.refl _, ga, rfl, Nat.zero_le _, (fun z => nomatch z)⟩, ?_⟩
    rintro k σ G ⟨F1, j, c, b, rfl, rfl, g, fy, fd, s2, ga, st, lj, hb⟩
    obtain ⟨ok, ll⟩ := stepsC_ok hM st
    have hm1 := hm2.up s2
    obtain ⟨row, er, s0, ee, eo⟩ := ok.ent hM
    have gy := g.th
    have fin : ∀ G1, Gr mu0 F H F1 G1 → GoAt t.C_Goer G1 y d m c.r c.s c.l j → (stepC M c = none ∨ j = n) → ∀ p, G1 p = none → ∀ u, (upd G1 p (.tup [])) u = none → Q (.ref u) (upd (upd G1 p (.tup [])) u (.tup [.ref y, .bl (decide (entOf M c = Ent.emp))])) := by
      intro G1 g1 ga1 hend p np u nu
      have g2 := g1.own (o := .tup []) np
      have g3 := g2.new (o := .tup [.ref y, .bl (decide (entOf M c = Ent.emp))]) nu
      obtain ⟨⟨dx, ho⟩, hdc⟩ := id ga1
      have yu : y ≠ u := fun z => by rw [← z, upd_ne (ne_of_none ho np), ho] at nu; cases nu
      have du : d ≠ u := fun z => by rw [← z, upd_ne (ne_of_none hdc np), hdc] at nu; cases nu
      refine q _ _ u y d j c g3 upd_same hy hd (by rw [upd_ne yu]; exact fy) (by rw [upd_ne du]; exact fd) ⟨⟨dx, ln nu (ln np ho)⟩, ln nu (ln np hdc)⟩ ⟨lj, st, hend⟩
    obtain ⟨⟨dx, ho⟩, hdc⟩ := id ga
    refine ⟨_, rfl, _, rfl, ?_⟩
    refine ite2 (fun cb => ?_) (fun cb => ?_)
    · refine ⟨_, rfl, y, t.C_Goer, dx, _, _, rfl, ho, t.cl_Goer, t.nA_Goer_steps, Goer_get_steps, _, rfl, _, _, rfl, rfl, _, rfl, ?_⟩
      refine ite2 (fun cl => ?_) (fun cl => ?_)
      · have cl : (j : Int) < n := of_decide_eq_true cl
        refine ⟨_, fun _ _ h => h, ?_⟩
        refine ⟨_, rfl, y, dx, _, rfl, ho, Goer_no (by decide +kernel) (by decide +kernel) (by decide +kernel) (by decide +kernel) (by decide +kernel), F1, y, d, m, M, c.r, c.s, c.l, j, row, entOf M c, rfl, g.fh, fy, fd, hm1, ga, ok.r0, er, s0, ee, by omega, fun he H6 g6 => ?_, fun p w r' he H6 g6 gb => ?_⟩
        · exact ⟨2 * (n - j), by rw [cb]; show _ < 2 * (n - j) + 1; omega, F1, j, c, false, rfl, rfl, g.trans g6, fy, fd, s2, ga.gr g6 (fun z => z) (fun z => z), st, lj, fun _ => stepC_none.mpr he⟩
        · have st1 := stepC_go he
          exact ⟨2 * (n - (j + 1)) + 1, by rw [cb]; show _ < 2 * (n - j) + 1; omega, F1, j + 1, ⟨r', c.s + w, put c.l c.s p⟩, true, rfl, rfl, g.thn g6 (fun c z => .inr (by rcases z with rfl | rfl <;> assumption)), fy, fd, s2, gb, (stepsC_next st).trans st1, by omega, fun z => nomatch z⟩
      · have cl : ¬ (j : Int) < n := fun z => cl (decide_eq_true z)
        refine ⟨_, rfl, _, rfl, y, dx, _, rfl, ho, Goer_no (by decide +kernel) (by decide +kernel) (by decide +kernel) (by decide +kernel) (by decide +kernel), F1, y, d, m, M, c.r, c.s, c.l, j, row, entOf M c, rfl, g.fh, hm1, ga, ok.r0, er, s0, ee, fun v hv => ⟨nil_le, fun p np => ?_⟩⟩
        refine eq_dat (a := entOf M c) (b := Ent.emp) (hv.up (g.own np).fh) ⟨p, rfl, upd_same⟩ ⟨two_le, fun u nu => ?_⟩
        exact fin G g ga (.inr (by omega)) p np u nu
    · refine ifF rfl ?_
      have cb : b = false := by cases b with | false => rfl | true => exact absurd rfl cb
      refine ⟨_, rfl, _, rfl, y, dx, _, rfl, ho, Goer_no (by decide +kernel) (by decide +kernel) (by decide +kernel) (by decide +kernel) (by decide +kernel), F1, y, d, m, M, c.r, c.s, c.l, j, row, entOf M c, rfl, g.fh, hm1, ga, ok.r0, er, s0, ee, fun v hv => ⟨nil_le, fun p np => ?_⟩⟩
      refine eq_dat (a := entOf M c) (b := Ent.emp) (hv.up (g.own np).fh) ⟨p, rfl, upd_same⟩ ⟨two_le, fun u nu => ?_⟩
      exact fin G g ga (.inl (hb cb)) p np u nu
def sp_told_strip : Sp := fun vs H Q _ => ∃ (F : Hp) (d : Addr) (l : List PI), vs = [.ref d] ∧ Same F H ∧ H d = some (.dK (dI l)) ∧ l.length ≤ 100000 ∧
  ∀ (F' H' : Hp) (p : Addr) (xs : List V), Gr mu0 F H F' H' → Ow H F' H' p (.lst xs) → IsAll F' xs (told l) → Q (.ref p) H'
theorem ok_told_strip (t : Tx K mg) : FnOk P w K mg base CX0 1 t.a_told_strip t.fd_told_strip ["signs"] sp_told_strip := by
  refine t.F_told_strip.ok sc_told_strip (fun vs H Q E h => ?_) (fun cdv A outer s H vs Q E hr h => ?_)
  · obtain ⟨F, d, l, rfl, _⟩ := h
    rfl
  · obtain ⟨F, d, l, rfl, sF, hd, hl, q⟩ := h
    refine ⟨_, (pss_one (ps_ret (pe_callB (id := "sorted") call_sortQ (by rfl) t.n_sorted (by decide +kernel) (pa_cons (pe_lock (pe_lc (own := [("place", 1), ("sign", 2)]) rfl sc_told_strip.nd (pi_items (pv 0)) (blkOk_by (N := N_told_strip) (sc := defScope s_told_strip) (by decide +kernel)) (fun _ _ _ _ _ => (pg_tupK (K := K) (n := 2) rfl rfl (pgs_cons (pg_name (i := 1) sc_told_strip.nd rfl (by first | exact Or.inl rfl | exact Or.inr rfl)) (pgs_cons (pg_name (i := 2) sc_told_strip.nd rfl (by first | exact Or.inl rfl | exact Or.inr rfl)) pgs_nil)))) (fun _ _ _ _ _ => (pts_one (pt_cmpR op_ne (pv 2) pe_int (nomark _)))) (fun _ _ _ _ _ => (pe_tup (pa_cons (pv 1) (pa_cons (pv 2) pa_nil)))))) pa_nil)))), ?_⟩
    refine ⟨d, _, hd, trivial, fun od => ?_⟩
    have sL := lock_in (d := d) (o := .frz od (.dK (dI l))) sF
    have g0 : Gr mu0 _ (upd H d (.frz od (.dK (dI l)))) _ (upd H d (.frz od (.dK (dI l)))) := Gr.refl sL
    have dl : (dI l).length = l.length := by unfold dI; rw [List.length_map]
    generalize eH1 : upd H d (.frz od (.dK (dI l))) = H1 at g0
    generalize eF1 : (fun c => if c = d then none else F c) = F1 at g0
    have hd1 : H1 d = some (.frz od (.dK (dI l))) := by rw [← eH1]; exact upd_same
    refine ⟨_, rfl, d, od, dI l, rfl, hd1, fun D nD => lc_it walk_items (fun i G => ∃ F2 xs, Gr mu0 F1 H1 F2 G ∧ Ow H1 F2 G D (.lst xs) ∧ IsAll F2 xs ((l.take i).filter nz)) ⟨F1, [], g0.own nD, Ow.mk1 g0 nD, All2.nil⟩ (fun i G _ ⟨F2, xs, g, _⟩ => g.fr _ _ hd1 (fun z => z)) ?_ ?_⟩
    · rintro i x G G' hi ⟨F2, xs, g, w, al⟩ ⟨T, x1, x2, rfl, nT, rfl, e1, e2⟩
      rw [dl] at hi
      have e1 : (dI l)[i]?.map (fun kv => kV kv.1) = some x1 := e1
      have e2 : (dI l)[i]?.map Prod.snd = some x2 := e2
      rw [dI_get hi] at e1 e2
      cases e1
      cases e2
      have g1 := g.new (o := .tup [.int l[i].a, .int l[i].b]) nT
      have w1 := w.new (u := .tup [.int l[i].a, .int l[i].b]) nT
      refine ⟨T, _, rfl, SqT.of upd_same, rfl, _, _, rfl, _, _, rfl, rfl, rfl, _, rfl, rfl, _, rfl, ?_⟩
      rw [filter_take_succ hi]
      refine ite2 (fun c => ?_) (fun c => ?_)
      · have c' : nz l[i] = true := by
          refine decide_eq_true fun z => ?_
          have c : (!decide (V.int l[i].b = V.int 0)) = true := c
          rw [z, decide_eq_true rfl] at c
          cases c
        rw [if_pos c']
        refine ⟨_, rfl, _, rfl, two_le, fun T2 nT2 => ⟨xs, (w1.new nT2).h, ?_, ?_⟩⟩
        · rw [al.1]
          exact lt_size (Nat.le_trans (List.length_filter_le _ _) (by rw [List.length_take]; omega))
        · have g2 := g1.new (o := .tup [.int l[i].a, .int l[i].b]) nT2
          have w2 := w1.new (u := .tup [.int l[i].a, .int l[i].b]) nT2
          refine ⟨_, _, g2.set w2.f (.inl w2.n), w2.set, (al.up (fun c o h => ?_)).app (All2.one ⟨T2, _, _, rfl, upd_same, rfl, rfl⟩)⟩
          rw [upd_ne (ne_of_none (g1.fh _ _ ((Gr.refl (mu := mu0) g.fh).new nT |>.ff c o h)) nT2)]
          exact (Gr.refl (mu := mu0) g.fh).new nT |>.ff c o h
      · have c' : ¬ nz l[i] = true := fun z => by
          refine c ?_
          have z := of_decide_eq_true z
          show (!decide (V.int l[i].b = V.int 0)) = true
          rw [decide_eq_false (fun e => z (V.int.inj e))]; rfl
        rw [if_neg c', List.append_nil]
        exact ⟨_, xs, g1, w1, al.up ((Gr.refl (mu := mu0) g.fh).new nT).ff⟩
    · rintro G ⟨F2, xs, g, w, al⟩
      rw [dl, List.take_length] at al
      subst eH1
      subst eF1
      obtain ⟨h1, h2, h3⟩ := lock_out sF hd g
      refine ⟨h1, ?_⟩
      have hDd : D ≠ d := by
        rintro rfl
        rw [w.h] at h1; cases h1
      refine sort_pairs (K := K) (l := l.filter nz) (xs := xs) h3.fh (al.up h2) (SqL.of (by rw [upd_ne hDd]; exact w.h)) fun ys p np hys => ?_
      exact q _ _ p ys (h3.own np) (Ow.mk1 h3 np) hys
def sp_Goer_setup (C : Addr) : Sp := fun vs H Q _ => ∃ (F : Hp) (g d : Addr) (tb : V) (r s : Int) (l : List PI) (n : Int), vs = [.ref g] ∧ Same F H ∧ GoAt C H g d tb r s l n ∧ l.length ≤ 100000 ∧
  ∀ (F' H' : Hp) (p u : Addr) (xs : List V), Gr mu0 F H F' H' → Ow H F' H' p (.lst xs) → IsAll F' xs (told l) → Ow H F' H' u (.tup [.int r, .int s, .ref p]) → Q (.ref u) H'
theorem ok_Goer_setup (t : Tx K mg) : FnOk P w K mg base CX0 2 t.a_Goer_setup t.fd_Goer_setup ["self"] (sp_Goer_setup t.C_Goer) := by
  refine t.F_Goer_setup.ok sc_Goer_setup (fun vs H Q E h => ?_) (fun cdv A outer s H vs Q E hr h => ?_)
  · obtain ⟨F, g, d, tb, r, s, l, n, rfl, _⟩ := h
    rfl
  · obtain ⟨F, g, d, tb, r, s, l, n, rfl, sF, hg, hl, q⟩ := h
    refine ⟨_, (pss_one (ps_ret (pe_tup (pa_cons (pe_fld (pv 0) rfl) (pa_cons (pe_fld (pv 0) rfl) (pa_cons (pe_call (ok_told_strip t) (hr.mono (by decide)) (by rfl) t.m_told_strip t.F_told_strip.kp t.b_told_strip .nil pass0 (pa_cons (pe_fld (pv 0) rfl) pa_nil)) pa_nil)))))), ?_⟩
    obtain ⟨⟨dx, ho⟩, hd⟩ := id hg
    refine ⟨_, rfl, g, t.C_Goer, dx, _, _, rfl, ho, t.cl_Goer, t.nA_Goer_row, Goer_get_row, _, rfl, g, t.C_Goer, dx, _, _, rfl, ho, t.cl_Goer, t.nA_Goer_spot, Goer_get_spot, _, rfl, g, t.C_Goer, dx, _, _, rfl, ho, t.cl_Goer, t.nA_Goer_signs, Goer_get_signs, ?_⟩
    refine ⟨F, d, l, rfl, sF, hd, hl, fun F' H' p xs gr w al => ⟨three_le, fun u nu => ?_⟩⟩
    exact q F' _ p u xs (gr.own nu) (w.own nu) al (Ow.mk1 gr nu)
/-! ### machines that are led along -/
theorem MaO.slot {H F1 H1 : Hp} {m : Addr} {rs : List Addr} {ess : List (List V)} {M : Mach} {R S i : Nat} (x : MaO H F1 H1 m rs ess M) (hM : MOk M R S) (hi : i < R) : ∃ r es row, rs[i]? = some r ∧ ess[i]? = some es ∧ M[i]? = some row ∧ Ow H F1 H1 r (.lst es) ∧ es.length = S ∧ (rs.map V.ref)[i]? = some (.ref r) := by
  have h : M[i]? = some _ := List.getElem?_eq_getElem (by rw [hM.len]; exact hi)
  obtain ⟨r, es, h1, h2, w, al⟩ := x.at h
  exact ⟨r, es, _, h1, h2, h, w, al.1.trans (hM.row _ (List.mem_of_getElem? h)), by rw [List.getElem?_map, h1]; rfl⟩
def sp_L_led : Sp := sp_L_machine
theorem ok_L_led (t : Tx K mg) : FnOk P w K mg base CX0 2 t.a_L_led t.fd_L_led ["_law_purse_here"] sp_L_led := by
  refine t.F_L_led.ok sc_L_led (fun vs H Q E h => ?_) (fun cdv A outer s H vs Q E hr h => ?_)
  · obtain ⟨F, p, a, b, rfl, _⟩ := h
    rfl
  · obtain ⟨F, p, a, b, rfl, sF, fp, hp, ha, hb, q⟩ := h
    refine ⟨_, (pss_cons (ps_set (i := 1) sc_L_led.nd rfl (by first | exact Or.inl rfl | exact Or.inr rfl) (pe_op op_add pe_int (pe_call (ok_L_draw t) (hr.mono (by decide)) (by rfl) t.m_L_draw t.F_L_draw.kp t.b_L_draw .nil pass0 (pa_cons (pv 0) (pa_cons pe_int pa_nil)))))
      (pss_cons (ps_set (i := 2) sc_L_led.nd rfl (by first | exact Or.inl rfl | exact Or.inr rfl) (pe_op op_sub (pe_op op_mul pe_int (pe_call (ok_L_draw t) (hr.mono (by decide)) (by rfl) t.m_L_draw t.F_L_draw.kp t.b_L_draw .nil pass0 (pa_cons (pv 0) (pa_cons pe_int pa_nil)))) pe_int))
      (pss_cons (ps_set (i := 3) sc_L_led.nd rfl (by first | exact Or.inl rfl | exact Or.inr rfl) (pe_op op_add pe_int (pe_call (ok_L_draw t) (hr.mono (by decide)) (by rfl) t.m_L_draw t.F_L_draw.kp t.b_L_draw .nil pass0 (pa_cons (pv 0) (pa_cons pe_int pa_nil)))))
      (pss_cons (ps_set (i := 4) sc_L_led.nd rfl (by first | exact Or.inl rfl | exact Or.inr rfl) pe_int)
      (pss_cons (ps_set (i := 5) sc_L_led.nd rfl (by first | exact Or.inl rfl | exact Or.inr rfl) (pe_lst pa_nil))
      (pss_cons (ps_for PassesOwn.never rfl (pi_range1 (by rfl) t.n_range (pa_cons (pv 4) pa_nil)) (pg_name (i := 6) sc_L_led.nd rfl (by first | exact Or.inl rfl | exact Or.inr rfl)) (pss_cons (ps_setLc (i := 7) (own := [("_law_j", 8)]) (g := gName 8) (tt := tYes) rfl sc_L_led.nd rfl rfl (sw_true rfl rfl rfl (by decide +kernel)) (pi_range1 (by rfl) t.n_range (pa_cons (pv 1) pa_nil)) (blkOk_by (N := N_L_led) (sc := defScope s_L_led) (by decide +kernel)) (fun _ _ _ _ _ => (pg_name (i := 8) sc_L_led.nd rfl (by first | exact Or.inl rfl | exact Or.inr rfl))) (fun _ _ _ _ _ => pts_nil) (fun _ _ _ _ _ => (pe_tup (pa_cons (pe_call (ok_L_draw t) (hr.mono (by decide)) (by rfl) t.m_L_draw t.F_L_draw.kp t.b_L_draw .nil pass0 (pa_cons (pv 0) (pa_cons (pv 1) pa_nil))) (pa_cons (pe_op op_sub (pe_op op_mul pe_int (pe_call (ok_L_draw t) (hr.mono (by decide)) (by rfl) t.m_L_draw t.F_L_draw.kp t.b_L_draw .nil pass0 (pa_cons (pv 0) (pa_cons pe_int pa_nil)))) pe_int) (pa_cons (pe_call (ok_L_draw t) (hr.mono (by decide)) (by rfl) t.m_L_draw t.F_L_draw.kp t.b_L_draw .nil pass0 (pa_cons (pv 0) (pa_cons (pv 4) pa_nil))) pa_nil))))))
      (pss_cons (ps_asg (pe_tup (pa_cons (pe_call (ok_L_draw t) (hr.mono (by decide)) (by rfl) t.m_L_draw t.F_L_draw.kp t.b_L_draw .nil pass0 (pa_cons (pv 0) (pa_cons (pv 1) pa_nil))) (pa_cons (pv 2) (pa_cons (pe_op op_mod (pe_op op_add (pv 6) pe_int) (pe_op op_add (pv 3) pe_int)) pa_nil)))) (pg_sub (pv 7) pe_int set_list))
      (pss_one (ps_expr (pe_bm PySem.F.plainAttrs_list PySem.F.slot_list_append PySem.F.type_list_append mt_append (pv 5) (pa_cons (pv 7) pa_nil)))))))
      (pss_cons (ps_if (pt_cmpR op_eq (pe_call (ok_L_draw t) (hr.mono (by decide)) (by rfl) t.m_L_draw t.F_L_draw.kp t.b_L_draw .nil pass0 (pa_cons (pv 0) (pa_cons pe_int pa_nil))) pe_int (nomark _)) (pss_cons (ps_asg (pe_tup (pa_cons (pe_op op_add pe_int (pe_call (ok_L_draw t) (hr.mono (by decide)) (by rfl) t.m_L_draw t.F_L_draw.kp t.b_L_draw .nil pass0 (pa_cons (pv 0) (pa_cons (pe_op op_sub (pv 1) pe_int) pa_nil)))) (pa_cons (pv 2) (pa_cons pe_int pa_nil)))) (pg_sub (pe_ix ix_list (pv 5) pe_int (fun _ _ => rfl)) pe_int set_list))
      (pss_one (ps_asg (pe_tup (pa_cons (pe_call (ok_L_draw t) (hr.mono (by decide)) (by rfl) t.m_L_draw t.F_L_draw.kp t.b_L_draw .nil pass0 (pa_cons (pv 0) (pa_cons (pv 1) pa_nil))) (pa_cons (pe_op op_sub pe_int (pv 2)) (pa_cons (pe_call (ok_L_draw t) (hr.mono (by decide)) (by rfl) t.m_L_draw t.F_L_draw.kp t.b_L_draw .nil pass0 (pa_cons (pv 0) (pa_cons pe_int pa_nil))) pa_nil)))) (pg_sub (pe_ix ix_list (pv 5) pe_int (fun _ _ => rfl)) pe_int set_list)))) pss_nil)
      (pss_one (ps_ret (pv 5)))))))))), ?_⟩
    have g0 : Gr (muP p) F H F H := Gr.refl sF
    -- signs, way, long, rows
    refine ⟨_, rfl, p, a, b, 3, rfl, hp, ha, hb, by decide, by decide, fun d1 a1 b1 d10 d11 ha1 hb1 => ⟨_, _, rfl, rfl, ?_⟩⟩
    have g1 := g0.set (o := PurseO a1 b1) fp (.inr rfl)
    refine ⟨_, rfl, p, a1, b1, 2, rfl, upd_same, ha1, hb1, by decide, by decide, fun d2 a2 b2 d20 d21 ha2 hb2 => ⟨_, _, rfl, rfl, .inl ⟨by decide, by decide⟩, _, _, rfl, rfl, ?_⟩⟩
    have g2 := g1.set (o := PurseO a2 b2) fp (.inr rfl)
    refine ⟨_, rfl, p, a2, b2, 3, rfl, upd_same, ha2, hb2, by decide, by decide, fun d3 a3 b3 d30 d31 ha3 hb3 => ⟨_, _, rfl, rfl, ?_⟩⟩
    have g3 := g2.set (o := PurseO a3 b3) fp (.inr rfl)
    have hp3 : (upd (upd (upd H p (PurseO a1 b1)) p (PurseO a2 b2)) p (PurseO a3 b3)) p = some (PurseO a3 b3) := upd_same
    generalize upd (upd (upd H p (PurseO a1 b1)) p (PurseO a2 b2)) p (PurseO a3 b3) = H3 at g3 hp3
    obtain ⟨S, eS⟩ : ∃ S : Nat, 2 + d1 = (S : Int) := Int.eq_ofNat_of_zero_le (by omega)
    have S4 : S ≤ 4 := by omega
    have S2 : 2 ≤ S := by omega
    obtain ⟨wy, ew⟩ : ∃ wy : Int, 2 * d2 - 1 = wy := ⟨_, rfl⟩
    have wok : wy = -1 ∨ wy = 1 := by omega
    dsimp only
    rw [eS, ew]
    -- found = []
    refine ⟨nil_le, fun D nD => ?_⟩
    have x0 : MaO H F (upd H3 D (.lst [])) D [] [] [] := ⟨Ow.mk1 g3 nD, List.nodup_nil, (fun z => nomatch z), rfl, fun i r es h _ => (by cases h), All2.nil⟩
    have g4 := g3.own (o := .lst []) nD
    have hp4 := ln (u := .lst []) nD hp3
    refine ⟨_, rfl, 4, rfl, by decide, by decide, for_range (lo := 0) (n := 4) (fun i σ G => ∃ (F1 : Hp) (rs : List Addr) (ess : List (List V)) (M : Mach) (a b : Int) (v6 v7 : Option V), σ = [some (.ref p), some (.int S), some (.int wy), some (.int (1 + d3)), some (.int 4), some (.ref D), v6, v7, none] ∧
      Gr (muP p) F H F1 G ∧ G p = some (PurseO a b) ∧ 0 ≤ a ∧ 0 ≤ b ∧ MaO H F1 G D rs ess M ∧ M.length = i ∧ ∀ row ∈ M, row.length = S ∧ ∀ e ∈ row, EOk 4 S e) ⟨F, [], [], [], a3, b3, none, none, rfl, g4, hp4, ha3, hb3, x0, rfl, fun row z => nomatch z⟩ ?_ ?_⟩
    · rintro i σ G hi ⟨F1, rs, ess, M, a, b, v6, v7, rfl, g, hpG, ha, hb, x, hl, hM⟩
      -- row = [.. for j in range(signs)]
      refine ⟨_, rfl, (S : Int), rfl, by omega, by omega, fun r nr => ?_⟩
      have gr := g.own (o := .lst []) nr
      have wr : Ow H F1 (upd G r (.lst [])) r (.lst []) := Ow.mk1 g nr
      have xr := x.gr ((Gr.refl (mu := mu0) g.fh).own (o := .lst []) nr) fun c z => z.elim
      have offr := x.offn nr
      have hpr := ln (u := .lst []) nr hpG
      refine lc_range (lo := 0) (n := ((S : Int)).toNat) (fun j G => ∃ (F1 : Hp) (es : List V) (row : List Ent) (a b : Int),
        Gr (muP p) F H F1 G ∧ G p = some (PurseO a b) ∧ 0 ≤ a ∧ 0 ≤ b ∧ MaO H F1 G D rs ess M ∧ Ow H F1 G r (.lst es) ∧ IsAll F1 es row ∧ row.length = j ∧ ∀ e ∈ row, EOk 4 S e) ⟨F1, [], [], a, b, gr, hpr, ha, hb, xr, wr, All2.nil, rfl, fun e z => nomatch z⟩ ?_ ?_
      · rintro j G hj ⟨F1, es, row, a, b, g, hpG, ha, hb, x, w, al, hl, hrow⟩
        have wp : r ≠ p := fun z => by rw [z] at w; rw [w.n] at hp; cases hp
        refine ⟨rfl, yes ?_⟩
        refine ⟨_, rfl, _, rfl, p, a, b, (S : Int), rfl, hpG, ha, hb, by omega, by omega, fun e1 a1 b1 e10 e11 ha1 hb1 => ?_⟩
        obtain ⟨g1, k1⟩ := g.drw (a := a1) (b := b1) fp hp
        refine ⟨_, rfl, p, a1, b1, 2, rfl, upd_same, ha1, hb1, by decide, by decide, fun e2 a2 b2 e20 e21 ha2 hb2 => ⟨_, _, rfl, rfl, .inl ⟨by decide, by decide⟩, _, _, rfl, rfl, ?_⟩⟩
        obtain ⟨g2, k2⟩ := g1.drw (a := a2) (b := b2) fp hp
        refine ⟨_, rfl, _, rfl, p, a2, b2, 4, rfl, upd_same, ha2, hb2, by decide, by decide, fun e3 a3 b3 e30 e31 ha3 hb3 => ⟨three_le, fun q0 nq => ?_⟩⟩
        obtain ⟨g3, k3⟩ := g2.drw (a := a3) (b := b3) fp hp
        have k := (k1.trans k2).trans k3
        have x3 := x.gr k (x.off hp)
        have w3 := w.call k wp
        have hp3 : (upd (upd (upd G p (PurseO a1 b1)) p (PurseO a2 b2)) p (PurseO a3 b3)) p = some (PurseO a3 b3) := upd_same
        generalize upd (upd (upd G p (PurseO a1 b1)) p (PurseO a2 b2)) p (PurseO a3 b3) = G3 at g3 k x3 w3 hp3 nq
        have g4 := g3.new (o := .tup [.int e1, .int (2 * e2 - 1), .int e3]) nq
        have k4 := (Gr.refl (mu := mu0) g3.fh).new (o := .tup [.int e1, .int (2 * e2 - 1), .int e3]) nq
        have x4 := x3.gr k4 fun c z => z.elim
        have w4 := w3.call k4 fun z => z
        have hp4 := k4.fr _ _ hp3 fun z => z
        have ee : Is (upd F1 q0 (.tup [.int e1, .int (2 * e2 - 1), .int e3])) (.ref q0) (Ent.go e1 (2 * e2 - 1) e3) := ⟨q0, rfl, upd_same⟩
        have eo : EOk 4 S (Ent.go e1 (2 * e2 - 1) e3) := ⟨fun p w r z => by cases z; exact ⟨⟨e10, e11⟩, by omega, e30, e31⟩⟩
        refine ⟨es, w4.h, by rw [al.1, hl]; exact lt_size (by omega), _, es ++ [.ref q0], row ++ [_], a3, b3, g4.set w4.f (.inl w4.n), by rw [upd_ne (Ne.symm wp)]; exact hp4, ha3, hb3, x4.gr (mu := fun c => c = r) ((Gr.refl g4.fh).set w4.f (.inr rfl)) (fun c z => by rw [show c = r from z]; exact offr), w4.set, (al.up k4.ff).app (All2.one ee), by rw [List.length_append, hl]; rfl, fun e z => ?_⟩
        rcases List.mem_append.mp z with z | z
        · exact hrow e z
        · rw [List.mem_singleton.mp z]; exact eo
      · rintro G ⟨F1, es, row, a, b, g, hpG, ha, hb, x, w, al, hl2, hrow⟩
        have hl2 : row.length = S := by rw [hl2]; exact Int.toNat_natCast S
        have wp : r ≠ p := fun z => by rw [z] at w; rw [w.n] at hp; cases hp
        -- row[0] = ..
        refine ⟨_, rfl, _, rfl, p, a, b, (S : Int), rfl, hpG, ha, hb, by omega, by omega, fun e1 a1 b1 e10 e11 ha1 hb1 => ?_⟩
        obtain ⟨g1, k1⟩ := g.drw (a := a1) (b := b1) fp hp
        have x1 := x.gr k1 (x.off hp)
        have w1 := w.call k1 wp
        have hp1 : (upd G p (PurseO a1 b1)) p = some (PurseO a1 b1) := upd_same
        generalize upd G p (PurseO a1 b1) = G1 at g1 k1 x1 w1 hp1
        refine ⟨_, rfl, _, rfl, _, _, rfl, rfl, _, rfl, _, _, rfl, rfl, _, _, rfl, rfl, by omega, three_le, fun q0 nq => ?_⟩
        have m0 := Int.emod_nonneg (0 + (i : Int) + 1) (b := 1 + d3 + 1) (by omega)
        have m1 := Int.emod_lt_of_pos (0 + (i : Int) + 1) (b := 1 + d3 + 1) (by omega)
        have g2 := g1.new (o := .tup [.int e1, .int wy, .int ((0 + (i : Int) + 1) % (1 + d3 + 1))]) nq
        have k2 := (Gr.refl (mu := mu0) g1.fh).new (o := .tup [.int e1, .int wy, .int ((0 + (i : Int) + 1) % (1 + d3 + 1))]) nq
        have x2 := x1.gr k2 fun c z => z.elim
        have w2 := w1.call k2 fun z => z
        have hp2 := k2.fr _ _ hp1 fun z => z
        have ee : Is (upd F1 q0 (.tup [.int e1, .int wy, .int ((0 + (i : Int) + 1) % (1 + d3 + 1))])) (.ref q0) (Ent.go e1 wy ((0 + (i : Int) + 1) % (1 + d3 + 1))) := ⟨q0, rfl, upd_same⟩
        have eo : EOk 4 S (Ent.go e1 wy ((0 + (i : Int) + 1) % (1 + d3 + 1))) := ⟨fun p w r z => by cases z; exact ⟨⟨e10, e11⟩, wok, m0, Int.lt_of_lt_of_le m1 (by omega)⟩⟩
        have al2 := al.up k2.ff
        generalize upd F1 q0 (.tup [.int e1, .int wy, .int ((0 + (i : Int) + 1) % (1 + d3 + 1))]) = F2 at g2 k2 x2 w2 ee al2
        generalize upd G1 q0 (.tup [.int e1, .int wy, .int ((0 + (i : Int) + 1) % (1 + d3 + 1))]) = G2 at g2 k2 x2 w2 hp2
        refine ⟨_, rfl, r, _, 0, 0, rfl, rfl, w2.h, ixN_of (Int.le_refl _) (by rw [al.1, hl2]; omega), ?_⟩
        have g3 := g2.set (o := .lst (es.set 0 (.ref q0))) w2.f (.inl w2.n)
        have x3 := x2.gr (mu := fun c => c = r) ((Gr.refl g2.fh).set (o := .lst (es.set 0 (.ref q0))) w2.f (.inr rfl)) (fun c z => by rw [show c = r from z]; exact offr)
        have w3 := w2.set (u := .lst (es.set 0 (.ref q0)))
        have hp3 := (upd_ne (o := .lst (es.set 0 (.ref q0))) (Ne.symm wp)).trans hp2
        have al3 := al2.set ee 0
        -- found.append(row)
        refine ⟨_, rfl, .inl ⟨rfl, _, SqL.of x3.ow.h⟩, _, rfl, D, _, _, rfl, rfl, x3.ow.h, by rw [List.length_map, x.len, x.dat.1, hl]; exact lt_size (by omega), ?_⟩
        have e1' : rs.map V.ref ++ [V.ref r] = (rs ++ [r]).map V.ref := by rw [List.map_append]; rfl
        rw [e1']
        have pD : p ≠ D := fun z => by rw [z] at hp; rw [x.ow.n] at hp; cases hp
        refine ⟨F2, rs ++ [r], ess ++ [_], M ++ [_], a1, b1, _, _, rfl, g3.set x3.ow.f (.inl x3.ow.n), by rw [upd_ne pD]; exact hp3, ha1, hb1, x3.add w3 offr al3, by rw [List.length_append, hl]; rfl, fun row' z => ?_⟩
        rcases List.mem_append.mp z with z | z
        · exact hM row' z
        · rw [List.mem_singleton.mp z]
          refine ⟨by rw [List.length_set]; exact hl2, fun e z => ?_⟩
          rcases List.mem_or_eq_of_mem_set z with z | rfl
          · exact hrow e z
          · exact eo
    · rintro σ G ⟨F1, rs, ess, M, a, b, v6, v7, rfl, g, hpG, ha, hb, x, hl, hM⟩
      have mok : MOk M 4 S := ⟨by decide, by decide, S2, S4, hl, fun r z => (hM r z).1, fun r z => (hM r z).2⟩
      -- if draw(3) == 0
      refine ⟨_, rfl, p, a, b, 3, rfl, hpG, ha, hb, by decide, by decide, fun c0 a1 b1 c00 c01 ha1 hb1 => ⟨rfl, _, rfl, ?_⟩⟩
      obtain ⟨g1, k1⟩ := g.drw (a := a1) (b := b1) fp hp
      have x1 := x.gr k1 (x.off hp)
      have hp1 : (upd G p (PurseO a1 b1)) p = some (PurseO a1 b1) := upd_same
      generalize upd G p (PurseO a1 b1) = G1 at g1 k1 x1 hp1
      refine ite2 (fun _ => ?_) (fun _ => ⟨_, rfl, q F1 G1 D rs ess M 4 S a1 b1 g1 hp1 ha1 hb1 mok x1⟩)
      -- found[0][0] = ..
      refine ⟨_, rfl, _, rfl, _, _, rfl, rfl, p, a1, b1, ((S : Int) - 1), rfl, hp1, ha1, hb1, by omega, by omega, fun e1 a2 b2 e10 e11 ha2 hb2 => ⟨_, _, rfl, rfl, _, rfl, three_le, fun q1 nq1 => ?_⟩⟩
      obtain ⟨g2, k2⟩ := g1.drw (a := a2) (b := b2) fp hp
      have x2 := x1.gr k2 (x1.off hp)
      have hp2 : (upd G1 p (PurseO a2 b2)) p = some (PurseO a2 b2) := upd_same
      generalize upd G1 p (PurseO a2 b2) = G2 at g2 k2 x2 hp2 nq1
      have g3 := g2.new (o := .tup [.int (1 + e1), .int wy, .int 1]) nq1
      have k3 := (Gr.refl (mu := mu0) g2.fh).new (o := .tup [.int (1 + e1), .int wy, .int 1]) nq1
      have x3 := x2.gr k3 fun c z => z.elim
      have hp3 := k3.fr _ _ hp2 fun z => z
      have ee : Is (upd F1 q1 (.tup [.int (1 + e1), .int wy, .int 1])) (.ref q1) (Ent.go (1 + e1) wy 1) := ⟨q1, rfl, upd_same⟩
      have eo : EOk 4 S (Ent.go (1 + e1) wy 1) := ⟨fun p w r z => by cases z; exact ⟨⟨by omega, by omega⟩, wok, by decide, by decide⟩⟩
      generalize upd F1 q1 (.tup [.int (1 + e1), .int wy, .int 1]) = F3 at g3 x3 ee
      generalize upd G2 q1 (.tup [.int (1 + e1), .int wy, .int 1]) = G3 at g3 x3 hp3
      obtain ⟨r0, es0, row0, hr0, he0, hw0, w0, l0, m0⟩ := x3.slot mok (i := 0) (by decide)
      refine ⟨_, rfl, D, _, _, _, rfl, rfl, SqL.of x3.ow.h, atI_nat (j := 0) m0, r0, _, 0, 0, rfl, rfl, w0.h, ixN_of (Int.le_refl _) (by omega), ?_⟩
      have pr0 : p ≠ r0 := fun z => by rw [z] at hp; rw [w0.n] at hp; cases hp
      have g4 := g3.set (o := .lst (es0.set 0 (.ref q1))) w0.f (.inl w0.n)
      have x4 := x3.put (j := 0) hr0 he0 hw0 ee
      have hp4 := (upd_ne (o := .lst (es0.set 0 (.ref q1))) pr0).trans hp3
      have mok4 := mok.set (j := 0) hw0 eo
      generalize upd G3 r0 (.lst (es0.set 0 (.ref q1))) = G4 at g4 x4 hp4
      generalize M.set 0 (row0.set 0 (Ent.go (1 + e1) wy 1)) = M4 at x4 mok4
      generalize ess.set 0 (es0.set 0 (.ref q1)) = ess4 at x4
      -- found[1][0] = ..
      refine ⟨_, rfl, _, rfl, p, a2, b2, (S : Int), rfl, hp4, ha2, hb2, by omega, by omega, fun f1 a3 b3 f10 f11 ha3 hb3 => ⟨_, rfl, _, _, rfl, rfl, ?_⟩⟩
      obtain ⟨g5, k5⟩ := g4.drw (a := a3) (b := b3) fp hp
      have x5 := x4.gr k5 (x4.off hp)
      refine ⟨_, rfl, p, a3, b3, 3, rfl, upd_same, ha3, hb3, by decide, by decide, fun f3 a4 b4 f30 f31 ha4 hb4 => ⟨three_le, fun q2 nq2 => ?_⟩⟩
      obtain ⟨g6, k6⟩ := g5.drw (a := a4) (b := b4) fp hp
      have x6 := x5.gr k6 (x5.off hp)
      have hp6 : (upd (upd G4 p (PurseO a3 b3)) p (PurseO a4 b4)) p = some (PurseO a4 b4) := upd_same
      generalize upd (upd G4 p (PurseO a3 b3)) p (PurseO a4 b4) = G6 at g6 x6 hp6 nq2
      have g7 := g6.new (o := .tup [.int f1, .int (0 - wy), .int f3]) nq2
      have k7 := (Gr.refl (mu := mu0) g6.fh).new (o := .tup [.int f1, .int (0 - wy), .int f3]) nq2
      have x7 := x6.gr k7 fun c z => z.elim
      have hp7 := k7.fr _ _ hp6 fun z => z
      have ee2 : Is (upd F3 q2 (.tup [.int f1, .int (0 - wy), .int f3])) (.ref q2) (Ent.go f1 (0 - wy) f3) := ⟨q2, rfl, upd_same⟩
      have eo2 : EOk 4 S (Ent.go f1 (0 - wy) f3) := ⟨fun p w r z => by cases z; exact ⟨⟨f10, f11⟩, by omega, f30, by omega⟩⟩
      generalize upd F3 q2 (.tup [.int f1, .int (0 - wy), .int f3]) = F7 at g7 x7 ee2
      generalize upd G6 q2 (.tup [.int f1, .int (0 - wy), .int f3]) = G7 at g7 x7 hp7
      obtain ⟨r1, es1, row1, hr1, he1, hw1, w1, l1, m1⟩ := x7.slot mok4 (i := 1) (by decide)
      refine ⟨_, rfl, D, _, _, _, rfl, rfl, SqL.of x7.ow.h, atI_nat (j := 1) m1, r1, _, 0, 0, rfl, rfl, w1.h, ixN_of (Int.le_refl _) (by omega), ?_⟩
      have pr1 : p ≠ r1 := fun z => by rw [z] at hp; rw [w1.n] at hp; cases hp
      exact ⟨_, rfl, q F7 _ D rs _ _ 4 S a4 b4 (g7.set w1.f (.inl w1.n)) ((upd_ne pr1).trans hp7) ha4 hb4 (mok4.set (j := 0) hw1 eo2) (x7.put (j := 0) hr1 he1 hw1 ee2)⟩
/-! ### machines that begin with a hundred steps of their own -/
structure RoO (H F1 H1 : Hp) (rs : List Addr) (ess : List (List V)) (M : Mach) : Prop where
  nd : rs.Nodup
  len : rs.length = ess.length
  rows : ∀ (i : Nat) r es, rs[i]? = some r → ess[i]? = some es → Ow H F1 H1 r (.lst es)
  dat : All2 (fun es row => IsAll F1 es row) ess M
theorem RoO.nil {H F1 H1 : Hp} : RoO H F1 H1 [] [] [] := ⟨List.nodup_nil, rfl, fun i r es h _ => (by cases h), All2.nil⟩
theorem RoO.offn {H F1 H1 : Hp} {rs : List Addr} {ess : List (List V)} {M : Mach} (x : RoO H F1 H1 rs ess M) {p : Addr} (h : H1 p = none) : p ∉ rs := fun z => by
  obtain ⟨i, hi⟩ := List.getElem?_of_mem z
  have l := (List.getElem?_eq_some_iff.mp hi).1
  have w := x.rows i p _ hi (List.getElem?_eq_getElem (by rw [← x.len]; exact l))
  rw [w.h] at h; cases h
/-- one more row, of two entries -/
theorem RoO.two {mu : Addr → Prop} {F0 H F G : Hp} {rs : List Addr} {ess : List (List V)} {M : Mach} {e1 e2 : Ent} {o1 o2 : HO} {q1 q2 r : Addr} (h1 : o1 = entO e1) (h2 : o2 = entO e2) (g : Gr mu F0 H F G) (x : RoO H F G rs ess M) (n1 : G q1 = none) (n2 : (upd G q1 o1) q2 = none) (n3 : (upd (upd G q1 o1) q2 o2) r = none) :
    Gr mu F0 H (upd (upd F q1 o1) q2 o2) (upd (upd (upd G q1 o1) q2 o2) r (.lst [.ref q1, .ref q2])) ∧ RoO H (upd (upd F q1 o1) q2 o2) (upd (upd (upd G q1 o1) q2 o2) r (.lst [.ref q1, .ref q2])) (rs ++ [r]) (ess ++ [[.ref q1, .ref q2]]) (M ++ [[e1, e2]]) ∧
      ∀ c o, G c = some o → (upd (upd (upd G q1 o1) q2 o2) r (.lst [.ref q1, .ref q2])) c = some o := by
  subst h1
  subst h2
  have g1 := g.new (o := entO e1) n1
  have g2 := g1.new (o := entO e2) n2
  have g3 := g2.own (o := .lst [.ref q1, .ref q2]) n3
  have k1 := (Gr.refl (mu := mu0) g.fh).new (o := entO e1) n1
  have k2 := k1.new (o := entO e2) n2
  have k3 := k2.own (o := .lst [.ref q1, .ref q2]) n3
  have w : Ow H (upd (upd F q1 (entO e1)) q2 (entO e2)) (upd (upd (upd G q1 (entO e1)) q2 (entO e2)) r (.lst [.ref q1, .ref q2])) r (.lst [.ref q1, .ref q2]) := Ow.mk1 g2 n3
  have off : r ∉ rs := fun z => by
    obtain ⟨i, hi⟩ := List.getElem?_of_mem z
    have l := (List.getElem?_eq_some_iff.mp hi).1
    have w := x.rows i r _ hi (List.getElem?_eq_getElem (by rw [← x.len]; exact l))
    have h := k2.fr _ _ w.h fun z => z
    rw [h] at n3; cases n3
  have i1 : Is (upd (upd F q1 (entO e1)) q2 (entO e2)) (.ref q1) e1 := ⟨q1, rfl, (upd_ne (ne_of_none upd_same n2)).trans upd_same⟩
  have i2 : Is (upd (upd F q1 (entO e1)) q2 (entO e2)) (.ref q2) e2 := ⟨q2, rfl, upd_same⟩
  refine ⟨g3, ⟨nd_snoc x.nd off, by rw [List.length_append, List.length_append, x.len]; rfl, fun i r' es h1 h2 => ?_, (x.dat.imp fun es row z => z.up k3.ff).app (All2.one (All2.cons i1 (All2.one i2)))⟩, fun c o h => k3.fr c o h fun z => z⟩
  by_cases l : i < rs.length
  · rw [List.getElem?_append_left l] at h1
    rw [List.getElem?_append_left (by rw [← x.len]; exact l)] at h2
    exact (x.rows i r' es h1 h2).call k3 fun z => z
  · rw [List.getElem?_append_right (by omega)] at h1
    rw [List.getElem?_append_right (by rw [← x.len]; omega), ← x.len] at h2
    cases e : i - rs.length with
    | zero =>
      rw [e] at h1 h2
      cases h1; cases h2
      exact w
    | succ n => rw [e] at h1; cases h1
theorem RoO.mach {H F1 H1 : Hp} {mu : Addr → Prop} {F0 : Hp} {rs : List Addr} {ess : List (List V)} {M : Mach} {m : Addr} (x : RoO H F1 H1 rs ess M) (g : Gr mu F0 H F1 H1) (n : H1 m = none) : MaO H F1 (upd H1 m (.lst (rs.map V.ref))) m rs ess M :=
  ⟨Ow.mk1 g n, x.nd, x.offn n, x.len, fun i r es h1 h2 => (x.rows i r es h1 h2).own n, x.dat⟩
def late0 : Mach := [[.go 1 1 1, .go 1 (-1) 1], [.go 1 (-1) 0, .go 0 (-1) 2], [.emp, .go 1 (-1) 3], [.go 1 1 3, .go 0 1 0]]
theorem eok {R S : Nat} {p w r : Int} (h : (0 ≤ p ∧ p < S) ∧ (w = -1 ∨ w = 1) ∧ 0 ≤ r ∧ r < R) : EOk R S (.go p w r) := ⟨fun p w r z => by cases z; exact h⟩
theorem late0_ent : ∀ row ∈ late0, row.length = 2 ∧ ∀ e ∈ row, EOk 4 2 e := by
  intro row m
  have em : EOk 4 2 .emp := ⟨fun p w r z => by cases z⟩
  have mm : ∀ (e1 e2 : Ent), EOk 4 2 e1 → EOk 4 2 e2 → [e1, e2].length = 2 ∧ ∀ e ∈ [e1, e2], EOk 4 2 e := fun e1 e2 h1 h2 => ⟨rfl, fun e m => by
    rcases List.mem_cons.mp m with rfl | m
    · exact h1
    · rw [List.mem_singleton.mp m]; exact h2⟩
  unfold late0 at m
  rcases List.mem_cons.mp m with rfl | m
  · exact mm _ _ (eok (by decide)) (eok (by decide))
  rcases List.mem_cons.mp m with rfl | m
  · exact mm _ _ (eok (by decide)) (eok (by decide))
  rcases List.mem_cons.mp m with rfl | m
  · exact mm _ _ em (eok (by decide))
  rw [List.mem_singleton.mp m]
  exact mm _ _ (eok (by decide)) (eok (by decide))
theorem EOk.mono {R S S' : Nat} {e : Ent} (h : EOk R S e) (l : S ≤ S') : EOk R S' e := ⟨fun p w r z => by
  obtain ⟨h1, h2, h3⟩ := h.ok p w r z
  exact ⟨⟨h1.1, by omega⟩, h2, h3⟩⟩
theorem late0_ok : MOk late0 4 2 := ⟨by decide, by decide, by decide, by decide, rfl, fun r m => (late0_ent r m).1, fun r m => (late0_ent r m).2⟩
theorem four_le : 4 ≤ sizeLine := by decide
def sp_L_late : Sp := sp_L_machine
theorem ok_L_late (t : Tx K mg) : FnOk P w K mg base CX0 2 t.a_L_late t.fd_L_late ["_law_purse_here"] sp_L_late := by
  refine t.F_L_late.ok sc_L_late (fun vs H Q E h => ?_) (fun cdv A outer s H vs Q E hr h => ?_)
  · obtain ⟨F, p, a, b, rfl, _⟩ := h
    rfl
  · obtain ⟨F, p, a, b, rfl, sF, fp, hp, ha, hb, q⟩ := h
    refine ⟨_, (pss_cons (ps_set (i := 1) sc_L_late.nd rfl (by first | exact Or.inl rfl | exact Or.inr rfl) (pe_lst (pa_cons (pe_lst (pa_cons (pe_tup (pa_cons pe_int (pa_cons pe_int (pa_cons pe_int pa_nil)))) (pa_cons (pe_tup (pa_cons pe_int (pa_cons (pe_un un_neg pe_int) (pa_cons pe_int pa_nil)))) pa_nil))) (pa_cons (pe_lst (pa_cons (pe_tup (pa_cons pe_int (pa_cons (pe_un un_neg pe_int) (pa_cons pe_int pa_nil)))) (pa_cons (pe_tup (pa_cons pe_int (pa_cons (pe_un un_neg pe_int) (pa_cons pe_int pa_nil)))) pa_nil))) (pa_cons (pe_lst (pa_cons (pe_tup pa_nil) (pa_cons (pe_tup (pa_cons pe_int (pa_cons (pe_un un_neg pe_int) (pa_cons pe_int pa_nil)))) pa_nil))) (pa_cons (pe_lst (pa_cons (pe_tup (pa_cons pe_int (pa_cons pe_int (pa_cons pe_int pa_nil)))) (pa_cons (pe_tup (pa_cons pe_int (pa_cons pe_int (pa_cons pe_int pa_nil)))) pa_nil))) pa_nil))))))
      (pss_cons (ps_set (i := 2) sc_L_late.nd rfl (by first | exact Or.inl rfl | exact Or.inr rfl) (pe_call (ok_L_draw t) (hr.mono (by decide)) (by rfl) t.m_L_draw t.F_L_draw.kp t.b_L_draw .nil pass0 (pa_cons (pv 0) (pa_cons pe_int pa_nil))))
      (pss_cons (ps_if (pt_cmpR op_eq (pv 2) pe_int (nomark _)) (pss_one (ps_ret (pv 1))) pss_nil)
      (pss_cons (ps_if (pt_cmpR op_lt (pv 2) pe_int (nomark _)) (pss_cons (ps_setLc (i := 1) (own := [("_law_row", 3)]) (g := gName 3) (tt := tYes) rfl sc_L_late.nd rfl rfl (sw_true rfl rfl rfl (by decide +kernel)) (pi_list (pv 1)) (blkOk_by (N := N_L_late) (sc := defScope s_L_late) (by decide +kernel)) (fun _ _ _ _ _ => (pg_name (i := 3) sc_L_late.nd rfl (by first | exact Or.inl rfl | exact Or.inr rfl))) (fun _ _ _ _ _ => pts_nil) (fun _ _ _ _ _ => (pe_op op_cat (pv 3) (pe_lst (pa_cons (pe_tup (pa_cons (pe_call (ok_L_draw t) (hr.mono (by decide)) (by rfl) t.m_L_draw t.F_L_draw.kp t.b_L_draw .nil pass0 (pa_cons (pv 0) (pa_cons pe_int pa_nil))) (pa_cons (pe_op op_sub (pe_op op_mul pe_int (pe_call (ok_L_draw t) (hr.mono (by decide)) (by rfl) t.m_L_draw t.F_L_draw.kp t.b_L_draw .nil pass0 (pa_cons (pv 0) (pa_cons pe_int pa_nil)))) pe_int) (pa_cons (pe_call (ok_L_draw t) (hr.mono (by decide)) (by rfl) t.m_L_draw t.F_L_draw.kp t.b_L_draw .nil pass0 (pa_cons (pv 0) (pa_cons pe_int pa_nil))) pa_nil)))) pa_nil)))))
      (pss_cons (ps_asg (pe_tup (pa_cons pe_int (pa_cons (pe_op op_sub (pe_op op_mul pe_int (pe_call (ok_L_draw t) (hr.mono (by decide)) (by rfl) t.m_L_draw t.F_L_draw.kp t.b_L_draw .nil pass0 (pa_cons (pv 0) (pa_cons pe_int pa_nil)))) pe_int) (pa_cons pe_int pa_nil)))) (pg_sub (pe_ix ix_list (pv 1) pe_int (fun _ _ => rfl)) pe_int set_list))
      (pss_one (ps_ret (pv 1))))) pss_nil)
      (pss_cons (ps_asg (pe_tup (pa_cons (pe_call (ok_L_draw t) (hr.mono (by decide)) (by rfl) t.m_L_draw t.F_L_draw.kp t.b_L_draw .nil pass0 (pa_cons (pv 0) (pa_cons pe_int pa_nil))) (pa_cons (pe_op op_sub (pe_op op_mul pe_int (pe_call (ok_L_draw t) (hr.mono (by decide)) (by rfl) t.m_L_draw t.F_L_draw.kp t.b_L_draw .nil pass0 (pa_cons (pv 0) (pa_cons pe_int pa_nil)))) pe_int) (pa_cons (pe_call (ok_L_draw t) (hr.mono (by decide)) (by rfl) t.m_L_draw t.F_L_draw.kp t.b_L_draw .nil pass0 (pa_cons (pv 0) (pa_cons pe_int pa_nil))) pa_nil)))) (pg_sub (pe_ix ix_list (pv 1) pe_int (fun _ _ => rfl)) pe_int set_list))
      (pss_one (ps_ret (pv 1)))))))), ?_⟩
    have g0 : Gr (muP p) F H F H := Gr.refl sF
    -- the rows
    refine ⟨three_le, fun q1 n1 => ⟨_, rfl, three_le, fun q2 n2 => ⟨two_le, fun r1 n3 => ?_⟩⟩⟩
    obtain ⟨g1, x1, k1⟩ := RoO.two (e1 := .go 1 1 1) (e2 := .go 1 (-1) 1) rfl rfl g0 (RoO.nil (H := H)) n1 n2 n3
    have hp1 := k1 _ _ hp
    refine ⟨_, rfl, three_le, fun q3 n4 => ⟨_, rfl, three_le, fun q4 n5 => ⟨two_le, fun r2 n6 => ?_⟩⟩⟩
    obtain ⟨g2, x2, k2⟩ := RoO.two (e1 := .go 1 (-1) 0) (e2 := .go 0 (-1) 2) rfl rfl g1 x1 n4 n5 n6
    have hp2 := k2 _ _ hp1
    refine ⟨nil_le, fun q5 n7 => ⟨_, rfl, three_le, fun q6 n8 => ⟨two_le, fun r3 n9 => ?_⟩⟩⟩
    obtain ⟨g3, x3, k3⟩ := RoO.two (e1 := .emp) (e2 := .go 1 (-1) 3) rfl rfl g2 x2 n7 n8 n9
    have hp3 := k3 _ _ hp2
    refine ⟨three_le, fun q7 n10 => ⟨three_le, fun q8 n11 => ⟨two_le, fun r4 n12 => ?_⟩⟩⟩
    obtain ⟨g4, x4, k4⟩ := RoO.two (e1 := .go 1 1 3) (e2 := .go 0 1 0) rfl rfl g3 x3 n10 n11 n12
    have hp4 := k4 _ _ hp3
    refine ⟨four_le, fun D nD => ?_⟩
    have x5 := x4.mach g4 nD
    have g5 := g4.own (o := .lst (([r1, r2, r3, r4] : List Addr).map V.ref)) nD
    have hp5 := ln (u := .lst (([r1, r2, r3, r4] : List Addr).map V.ref)) nD hp4
    -- kind
    refine ⟨_, rfl, p, a, b, 4, rfl, hp5, ha, hb, by decide, by decide, fun kd a1 b1 k0 k1' ha1 hb1 => ?_⟩
    obtain ⟨g6, k6⟩ := g5.drw (a := a1) (b := b1) fp hp
    have x6 := x5.gr k6 (x5.off hp)
    refine ⟨_, rfl, rfl, _, rfl, ?_⟩
    refine ite2 (fun _ => ⟨_, rfl, q _ _ D _ _ late0 4 2 a1 b1 g6 upd_same ha1 hb1 late0_ok x6⟩) (fun _ => ?_)
    refine ⟨_, rfl, _, _, rfl, rfl, _, rfl, ?_⟩
    refine ite2 (fun _ => ?_) (fun _ => ?_)
    · refine ⟨_, rfl, D, rfl, ⟨_, SqL.of x6.ow.h⟩, fun E nE => ?_⟩
      have g7 := g6.own (o := .lst []) nE
      have x7 := x6.gr ((Gr.refl (mu := mu0) g6.fh).own (o := .lst []) nE) fun c z => z.elim
      have DE : D ≠ E := x6.ow.ne nE
      have offE := x6.offn nE
      have hp7 := ln (u := .lst []) nE (upd_same (a := p) (o := PurseO a1 b1))
      have y7 : MaO H _ _ E [] [] [] := ⟨Ow.mk1 g6 nE, List.nodup_nil, (fun z => nomatch z), rfl, fun i r es h _ => (by cases h), All2.nil⟩
      refine lc_list (K := K) (a := D) (xs := ([r1, r2, r3, r4] : List Addr).map V.ref) (fun i G => ∃ (F1 : Hp) (rs : List Addr) (ess : List (List V)) (M : Mach) (a b : Int), Gr (muP p) F H F1 G ∧ G p = some (PurseO a b) ∧ 0 ≤ a ∧ 0 ≤ b ∧ MaO H F1 G D [r1, r2, r3, r4] [[.ref q1, .ref q2], [.ref q3, .ref q4], [.ref q5, .ref q6], [.ref q7, .ref q8]] late0 ∧
        MaO H F1 G E rs ess M ∧ D ∉ rs ∧ (∀ r ∈ rs, r ∉ [r1, r2, r3, r4]) ∧ M.length = i ∧ ∀ row ∈ M, row.length = 3 ∧ ∀ e ∈ row, EOk 4 3 e) ⟨_, [], [], [], a1, b1, g7, hp7, ha1, hb1, x7, y7, (fun z => nomatch z), (fun r z => nomatch z), rfl, fun row z => nomatch z⟩ (fun i G _ ⟨F1, rs, ess, M, a, b, _, _, _, _, x, _⟩ => SqL.of x.ow.h) ?_ ?_
      · rintro i y G hi ⟨F1, rs, ess, M, a, b, g, hpG, ha, hb, x, ym, dD, dR, lM, hM⟩
        have il : i < 4 := (List.getElem?_eq_some_iff.mp hi).1
        obtain ⟨ri, es, row, hr, he, hw, w, les, m⟩ := x.slot late0_ok il
        have hi : (([r1, r2, r3, r4] : List Addr).map V.ref)[i]? = some y := hi
        rw [m] at hi
        cases hi
        refine ⟨rfl, yes ⟨_, rfl, ?_⟩⟩
        refine ⟨_, rfl, p, a, b, 3, rfl, hpG, ha, hb, by decide, by decide, fun e1 a1 b1 e10 e11 ha1 hb1 => ?_⟩
        obtain ⟨g1, k1⟩ := g.drw (a := a1) (b := b1) fp hp
        refine ⟨_, rfl, p, a1, b1, 2, rfl, upd_same, ha1, hb1, by decide, by decide, fun e2 a2 b2 e20 e21 ha2 hb2 => ⟨_, _, rfl, rfl, .inl ⟨by decide, by decide⟩, _, _, rfl, rfl, ?_⟩⟩
        obtain ⟨g2, k2⟩ := g1.drw (a := a2) (b := b2) fp hp
        refine ⟨_, rfl, p, a2, b2, 4, rfl, upd_same, ha2, hb2, by decide, by decide, fun e3 a3 b3 e30 e31 ha3 hb3 => ⟨three_le, fun q0 nq => ⟨one_le, fun l nl => ?_⟩⟩⟩
        obtain ⟨g3, k3⟩ := g2.drw (a := a3) (b := b3) fp hp
        have k := (k1.trans k2).trans k3
        have x3 := x.gr k (x.off hp)
        have y3 := ym.gr k (ym.off hp)
        have hp3 : (upd (upd (upd G p (PurseO a1 b1)) p (PurseO a2 b2)) p (PurseO a3 b3)) p = some (PurseO a3 b3) := upd_same
        generalize upd (upd (upd G p (PurseO a1 b1)) p (PurseO a2 b2)) p (PurseO a3 b3) = G3 at g3 k x3 y3 hp3 nq nl
        have g4 := (g3.new (o := .tup [.int e1, .int (2 * e2 - 1), .int e3]) nq).own (o := .lst [.ref q0]) nl
        have k4 := ((Gr.refl (mu := mu0) g3.fh).new (o := .tup [.int e1, .int (2 * e2 - 1), .int e3]) nq).own (o := .lst [.ref q0]) nl
        have x4 := x3.gr k4 fun c z => z.elim
        have y4 := y3.gr k4 fun c z => z.elim
        have hp4 := k4.fr _ _ hp3 fun z => z
        have ee : Is (upd F1 q0 (.tup [.int e1, .int (2 * e2 - 1), .int e3])) (.ref q0) (Ent.go e1 (2 * e2 - 1) e3) := ⟨q0, rfl, upd_same⟩
        have eo : EOk 4 3 (Ent.go e1 (2 * e2 - 1) e3) := eok ⟨⟨e10, e11⟩, by omega, e30, e31⟩
        have w4 := x4.rows _ _ _ hr he
        have hl4 : (upd (upd G3 q0 (.tup [.int e1, .int (2 * e2 - 1), .int e3])) l (.lst [.ref q0])) l = some (.lst [.ref q0]) := upd_same
        have al4 := x4.dat.2 i es row he hw
        generalize upd F1 q0 (.tup [.int e1, .int (2 * e2 - 1), .int e3]) = F4 at g4 k4 x4 y4 ee w4 al4
        generalize upd (upd G3 q0 (.tup [.int e1, .int (2 * e2 - 1), .int e3])) l (.lst [.ref q0]) = G4 at g4 k4 x4 y4 hp4 w4 hl4
        refine ⟨ri, l, es, [.ref q0], rfl, rfl, w4.h, hl4, by rw [les]; exact three_le, fun r nr => ?_⟩
        have offx := x4.offn nr
        have offy := y4.offn nr
        have g5 := g4.own (o := .lst (es ++ [.ref q0])) nr
        have k5 := (Gr.refl (mu := mu0) g4.fh).own (o := .lst (es ++ [.ref q0])) nr
        have x5 := x4.gr k5 fun c z => z.elim
        have y5 := y4.gr k5 fun c z => z.elim
        have w5 : Ow H F4 (upd G4 r (.lst (es ++ [.ref q0]))) r (.lst (es ++ [.ref q0])) := Ow.mk1 g4 nr
        have hp5 := ln (u := .lst (es ++ [.ref q0])) nr hp4
        have lrs : rs.length = i := by rw [ym.len, ym.dat.1, lM]
        refine ⟨rs.map V.ref, y5.ow.h, by rw [List.length_map]; exact lt_size (by omega), ?_⟩
        have e1' : rs.map V.ref ++ [V.ref r] = (rs ++ [r]).map V.ref := by rw [List.map_append]; rfl
        rw [e1']
        have pE : p ≠ E := fun z => by rw [z] at hp; rw [y5.ow.n] at hp; cases hp
        have ENotD : E ≠ D := fun z => by have h1 := y5.ow.h; rw [z] at h1; exact DE z.symm
        refine ⟨F4, rs ++ [r], ess ++ [_], M ++ [row ++ [Ent.go e1 (2 * e2 - 1) e3]], a3, b3, g5.set y5.ow.f (.inl y5.ow.n), by rw [upd_ne pE]; exact hp5, ha3, hb3, x5.gr (mu := fun c => c = E) ((Gr.refl g5.fh).set y5.ow.f (.inr rfl)) (fun c z => by rw [show c = E from z]; exact ⟨ENotD, offE.2⟩), y5.add w5 offy (al4.app (All2.one ee)), fun z => ?_, fun r' z => ?_, by rw [List.length_append, lM]; rfl, fun row' z => ?_⟩
        · rcases List.mem_append.mp z with z | z
          · exact dD z
          · exact offx.1 (List.mem_singleton.mp z).symm
        · rcases List.mem_append.mp z with z | z
          · exact dR r' z
          · rw [List.mem_singleton.mp z]; exact offx.2
        · rcases List.mem_append.mp z with z | z
          · exact hM row' z
          · rw [List.mem_singleton.mp z]
            obtain ⟨l1, l2⟩ := late0_ent row (List.mem_of_getElem? hw)
            refine ⟨by rw [List.length_append, l1]; rfl, fun e z => ?_⟩
            rcases List.mem_append.mp z with z | z
            · exact (l2 e z).mono (by decide)
            · rw [List.mem_singleton.mp z]; exact eo
      · rintro G ⟨F1, rs, ess, M, a, b, g, hpG, ha, hb, x, ym, dD, dR, lM, hM⟩
        have mok : MOk M 4 3 := ⟨by decide, by decide, by decide, by decide, lM, fun r z => (hM r z).1, fun r z => (hM r z).2⟩
        refine ⟨_, rfl, p, a, b, 2, rfl, hpG, ha, hb, by decide, by decide, fun e2 a2 b2 e20 e21 ha2 hb2 => ⟨_, _, rfl, rfl, .inl ⟨by decide, by decide⟩, _, _, rfl, rfl, three_le, fun q0 nq => ?_⟩⟩
        obtain ⟨g2, k2⟩ := g.drw (a := a2) (b := b2) fp hp
        have y2 := ym.gr k2 (ym.off hp)
        have hp2 : (upd G p (PurseO a2 b2)) p = some (PurseO a2 b2) := upd_same
        generalize upd G p (PurseO a2 b2) = G2 at g2 k2 y2 hp2 nq
        have g3 := g2.new (o := .tup [.int 2, .int (2 * e2 - 1), .int 2]) nq
        have k3 := (Gr.refl (mu := mu0) g2.fh).new (o := .tup [.int 2, .int (2 * e2 - 1), .int 2]) nq
        have y3 := y2.gr k3 fun c z => z.elim
        have hp3 := k3.fr _ _ hp2 fun z => z
        have ee : Is (upd F1 q0 (.tup [.int 2, .int (2 * e2 - 1), .int 2])) (.ref q0) (Ent.go 2 (2 * e2 - 1) 2) := ⟨q0, rfl, upd_same⟩
        have eo : EOk 4 3 (Ent.go 2 (2 * e2 - 1) 2) := eok ⟨by decide, by omega, by decide⟩
        generalize upd F1 q0 (.tup [.int 2, .int (2 * e2 - 1), .int 2]) = F3 at g3 y3 ee
        generalize upd G2 q0 (.tup [.int 2, .int (2 * e2 - 1), .int 2]) = G3 at g3 y3 hp3
        obtain ⟨r0, es0, row0, hr0, he0, hw0, w0, l0, m0⟩ := y3.slot mok (i := 2) (by decide)
        refine ⟨_, rfl, E, _, _, _, rfl, rfl, SqL.of y3.ow.h, atI_nat (j := 2) m0, r0, _, 0, 0, rfl, rfl, w0.h, ixN_of (Int.le_refl _) (by omega), ?_⟩
        have pr0 : p ≠ r0 := fun z => by rw [z] at hp; rw [w0.n] at hp; cases hp
        exact ⟨_, rfl, q F3 _ E rs _ _ 4 3 a2 b2 (g3.set w0.f (.inl w0.n)) ((upd_ne pr0).trans hp3) ha2 hb2 (mok.set (j := 0) hw0 eo) (y3.put (j := 0) hr0 he0 hw0 ee)⟩
    · refine ⟨_, rfl, p, a1, b1, 2, rfl, upd_same, ha1, hb1, by decide, by decide, fun e1 a2 b2 e10 e11 ha2 hb2 => ?_⟩
      obtain ⟨g7, k7⟩ := g6.drw (a := a2) (b := b2) fp hp
      refine ⟨_, rfl, p, a2, b2, 2, rfl, upd_same, ha2, hb2, by decide, by decide, fun e2 a3 b3 e20 e21 ha3 hb3 => ⟨_, _, rfl, rfl, .inl ⟨by decide, by decide⟩, _, _, rfl, rfl, ?_⟩⟩
      obtain ⟨g8, k8⟩ := g7.drw (a := a3) (b := b3) fp hp
      refine ⟨_, rfl, p, a3, b3, 4, rfl, upd_same, ha3, hb3, by decide, by decide, fun e3 a4 b4 e30 e31 ha4 hb4 => ⟨three_le, fun q0 nq => ?_⟩⟩
      obtain ⟨g9, k9⟩ := g8.drw (a := a4) (b := b4) fp hp
      have k := (k7.trans k8).trans k9
      have x9 := x6.gr k (x6.off hp)
      have g10 := g9.new (o := .tup [.int e1, .int (2 * e2 - 1), .int e3]) nq
      have k10 := (Gr.refl (mu := mu0) g9.fh).new (o := .tup [.int e1, .int (2 * e2 - 1), .int e3]) nq
      have x10 := x9.gr k10 fun c z => z.elim
      have hp10 := k10.fr _ _ (upd_same (a := p) (o := PurseO a4 b4)) fun z => z
      have eo : EOk 4 2 (Ent.go e1 (2 * e2 - 1) e3) := eok ⟨⟨e10, e11⟩, by omega, e30, e31⟩
      obtain ⟨r0, es0, row0, hr0, he0, hw0, w0, l0, m0⟩ := x10.slot late0_ok (i := 2) (by decide)
      refine ⟨_, rfl, D, _, _, _, rfl, rfl, SqL.of x10.ow.h, atI_nat (j := 2) m0, r0, _, 0, 0, rfl, rfl, w0.h, ixN_of (Int.le_refl _) (by omega), ?_⟩
      have pr0 : p ≠ r0 := fun z => by rw [z] at hp; rw [w0.n] at hp; cases hp
      exact ⟨_, rfl, q _ _ D _ _ _ 4 2 a4 b4 (g10.set w0.f (.inl w0.n)) ((upd_ne pr0).trans hp10) ha4 hb4 (late0_ok.set (j := 0) hw0 eo) (x10.put (j := 0) (v := .ref q0) (e := Ent.go e1 (2 * e2 - 1) e3) hr0 he0 hw0 ⟨q0, rfl, upd_same⟩)⟩
def sp_L_any : Sp := sp_L_machine
theorem ok_L_any (t : Tx K mg) : FnOk P w K mg base CX0 3 t.a_L_any t.fd_L_any ["_law_purse_here"] sp_L_any := by
  refine t.F_L_any.ok sc_L_any (fun vs H Q E h => ?_) (fun cdv A outer s H vs Q E hr h => ?_)
  · obtain ⟨F, p, a, b, rfl, _⟩ := h
    rfl
  · obtain ⟨F, p, a, b, rfl, sF, fp, hp, ha, hb, q⟩ := h
    refine ⟨_, (pss_cons (ps_if (pt_cmpR op_eq (pe_call (ok_L_draw t) (hr.mono (by decide)) (by rfl) t.m_L_draw t.F_L_draw.kp t.b_L_draw .nil pass0 (pa_cons (pv 0) (pa_cons pe_int pa_nil))) pe_int (nomark _)) (pss_one (ps_ret (pe_call (ok_L_late t) (hr.mono (by decide)) (by rfl) t.m_L_late t.F_L_late.kp t.b_L_late .nil pass0 (pa_cons (pv 0) pa_nil)))) pss_nil)
      (pss_cons (ps_if (pt_cmpR op_eq (pe_call (ok_L_draw t) (hr.mono (by decide)) (by rfl) t.m_L_draw t.F_L_draw.kp t.b_L_draw .nil pass0 (pa_cons (pv 0) (pa_cons pe_int pa_nil))) pe_int (nomark _)) (pss_one (ps_ret (pe_call (ok_L_led t) (hr.mono (by decide)) (by rfl) t.m_L_led t.F_L_led.kp t.b_L_led .nil pass0 (pa_cons (pv 0) pa_nil)))) pss_nil)
      (pss_one (ps_ret (pe_call (ok_L_machine t) (hr.mono (by decide)) (by rfl) t.m_L_machine t.F_L_machine.kp t.b_L_machine .nil pass0 (pa_cons (pv 0) pa_nil)))))), ?_⟩
    have g0 : Gr (muP p) F H F H := Gr.refl sF
    refine ⟨_, rfl, p, a, b, 6, rfl, hp, ha, hb, by decide, by decide, fun d1 a1 b1 d10 d11 ha1 hb1 => ⟨rfl, _, rfl, ?_⟩⟩
    have g1 := g0.set (o := PurseO a1 b1) fp (.inr rfl)
    have up : ∀ {H1 : Hp} {u : HO}, H p = some u → (∀ c, H1 c = none → H c = none) → ∀ {F' H' m rs ess M}, MaO H1 F' H' m rs ess M → MaO H F' H' m rs ess M := by
      intro H1 u _ t F' H' m rs ess M x
      exact ⟨⟨t _ x.ow.n, x.ow.f, x.ow.h⟩, x.nd, x.ne, x.len, fun i r es h1 h2 => ⟨t _ (x.rows i r es h1 h2).n, (x.rows i r es h1 h2).f, (x.rows i r es h1 h2).h⟩, x.dat⟩
    refine ite2 (fun _ => ?_) (fun _ => ?_)
    · exact ⟨_, rfl, F, p, a1, b1, rfl, g1.fh, fp, upd_same, ha1, hb1, fun F' H' m rs ess M R S a' b' g hp' ha' hb' hM x => q F' H' m rs ess M R S a' b' (g1.trans g) hp' ha' hb' hM (up hp g1.th x)⟩
    · refine ⟨_, rfl, p, a1, b1, 3, rfl, upd_same, ha1, hb1, by decide, by decide, fun d2 a2 b2 d20 d21 ha2 hb2 => ⟨rfl, _, rfl, ?_⟩⟩
      have g2 := g1.set (o := PurseO a2 b2) fp (.inr rfl)
      refine ite2 (fun _ => ?_) (fun _ => ?_)
      · exact ⟨_, rfl, F, p, a2, b2, rfl, g2.fh, fp, upd_same, ha2, hb2, fun F' H' m rs ess M R S a' b' g hp' ha' hb' hM x => q F' H' m rs ess M R S a' b' (g2.trans g) hp' ha' hb' hM (up hp g2.th x)⟩
      · exact ⟨_, rfl, F, p, a2, b2, rfl, g2.fh, fp, upd_same, ha2, hb2, fun F' H' m rs ess M R S a' b' g hp' ha' hb' hM x => q F' H' m rs ess M R S a' b' (g2.trans g) hp' ha' hb' hM (up hp g2.th x)⟩
/-! ### all setups of a run -/
theorem get_snoc {α : Type} {xs : List α} {x y : α} {i : Nat} (h : (xs ++ [x])[i]? = some y) : (i < xs.length ∧ xs[i]? = some y) ∨ (i = xs.length ∧ y = x) := by
  by_cases l : i < xs.length
  · rw [List.getElem?_append_left l] at h
    exact .inl ⟨l, h⟩
  · rw [List.getElem?_append_right (by omega)] at h
    cases e : i - xs.length with
    | zero => rw [e] at h; cases h; exact .inr ⟨by omega, rfl⟩
    | succ n => rw [e] at h; cases h
def Hist (M : Mach) (k : Nat) (cs : List Cfg) : Prop := cs.length = k + 1 ∧ ∀ i c, cs[i]? = some c → stepsC M i = some c
theorem Hist.uniq {M : Mach} {k : Nat} {cs cs' : List Cfg} (a : Hist M k cs) (b : Hist M k cs') : cs = cs' := by
  refine List.ext_getElem? fun i => ?_
  by_cases l : i < k + 1
  · have h1 : cs[i]? = some _ := List.getElem?_eq_getElem (by rw [a.1]; exact l)
    have h2 : cs'[i]? = some _ := List.getElem?_eq_getElem (by rw [b.1]; exact l)
    have e1 := a.2 i _ h1
    have e2 := b.2 i _ h2
    rw [e1] at e2
    rw [h1, h2, e2]
  · rw [List.getElem?_eq_none_iff.mpr (by rw [a.1]; omega), List.getElem?_eq_none_iff.mpr (by rw [b.1]; omega)]
theorem Hist.one {M : Mach} : Hist M 0 [c0] := ⟨rfl, fun i c h => by
  cases i with
  | zero => cases h; rfl
  | succ n => cases h⟩
theorem Hist.app {M : Mach} {k : Nat} {cs : List Cfg} {c : Cfg} (h : Hist M k cs) (e : stepsC M (k + 1) = some c) : Hist M (k + 1) (cs ++ [c]) := by
  refine ⟨by rw [List.length_append, h.1]; rfl, fun i b hb => ?_⟩
  rcases get_snoc hb with ⟨_, hb⟩ | ⟨rfl, rfl⟩
  · exact h.2 i b hb
  · rw [h.1]; exact e
theorem Hist.last {M : Mach} {k : Nat} {cs : List Cfg} {c : Cfg} (h : Hist M k cs) (e : stepsC M k = some c) : cs[k]? = some c := by
  have h1 : cs[k]? = some _ := List.getElem?_eq_getElem (by rw [h.1]; omega)
  have e1 := h.2 k _ h1
  rw [e] at e1
  rw [h1, ← e1]
def suOf (c : Cfg) : Setup := ⟨c.r, c.s, told c.l⟩
/-- a told list of setups, of which nothing is anybody else's -/
structure SeO (H F1 H1 : Hp) (D : Addr) (us ps : List Addr) (yss : List (List V)) (cs : List Cfg) : Prop where
  ow : Ow H F1 H1 D (.lst (us.map V.ref))
  l1 : us.length = cs.length
  l2 : ps.length = cs.length
  l3 : yss.length = cs.length
  tup : ∀ (i : Nat) u p c, us[i]? = some u → ps[i]? = some p → cs[i]? = some c → F1 u = some (.tup [.int c.r, .int c.s, .ref p])
  lst : ∀ (i : Nat) p ys, ps[i]? = some p → yss[i]? = some ys → Ow H F1 H1 p (.lst ys)
  dat : ∀ (i : Nat) ys c, yss[i]? = some ys → cs[i]? = some c → IsAll F1 ys (told c.l)
  nd : ps.Nodup
  ne : D ∉ ps
section
variable {mu : Addr → Prop} {H F H1 F1 H2 F2 : Hp} {D : Addr} {us ps : List Addr} {yss : List (List V)} {cs : List Cfg}
theorem SeO.list (x : SeO H F1 H1 D us ps yss cs) {p : Addr} (h : p ∈ ps) : ∃ ys, Ow H F1 H1 p (.lst ys) := by
  obtain ⟨i, hi⟩ := List.getElem?_of_mem h
  have l := (List.getElem?_eq_some_iff.mp hi).1
  exact ⟨_, x.lst i p _ hi (List.getElem?_eq_getElem (by rw [x.l3, ← x.l2]; exact l))⟩
theorem SeO.gr (x : SeO H F1 H1 D us ps yss cs) (g : Gr mu F1 H1 F2 H2) (k : ∀ c, mu c → c ≠ D ∧ c ∉ ps) : SeO H F2 H2 D us ps yss cs where
  ow := x.ow.call g fun z => (k D z).1 rfl
  l1 := x.l1
  l2 := x.l2
  l3 := x.l3
  tup := fun i u p c h1 h2 h3 => g.ff _ _ (x.tup i u p c h1 h2 h3)
  lst := fun i p ys h1 h2 => (x.lst i p ys h1 h2).call g fun z => (k p z).2 (List.mem_of_getElem? h1)
  dat := fun i ys c h1 h2 => (x.dat i ys c h1 h2).up g.ff
  nd := x.nd
  ne := x.ne
theorem SeO.off (x : SeO H F1 H1 D us ps yss cs) {c : Addr} {o : HO} (h : H1 c = some o) (k : ∀ xs, o ≠ .lst xs) : c ≠ D ∧ c ∉ ps := by
  refine ⟨fun z => ?_, fun z => ?_⟩
  · rw [z, x.ow.h] at h; cases h; exact k _ rfl
  · obtain ⟨ys, w⟩ := x.list z
    rw [w.h] at h; cases h; exact k _ rfl
theorem SeO.offn (x : SeO H F1 H1 D us ps yss cs) {c : Addr} (h : H1 c = none) : c ≠ D ∧ c ∉ ps := by
  refine ⟨fun z => ?_, fun z => ?_⟩
  · rw [z, x.ow.h] at h; cases h
  · obtain ⟨ys, w⟩ := x.list z
    rw [w.h] at h; cases h
theorem SeO.app (x : SeO H F1 H1 D us ps yss cs) {u p : Addr} {ys : List V} {c : Cfg} (hu : F1 u = some (.tup [.int c.r, .int c.s, .ref p])) (w : Ow H F1 H1 p (.lst ys)) (k : p ≠ D ∧ p ∉ ps) (al : IsAll F1 ys (told c.l)) :
    SeO H F1 (upd H1 D (.lst ((us ++ [u]).map V.ref))) D (us ++ [u]) (ps ++ [p]) (yss ++ [ys]) (cs ++ [c]) where
  ow := x.ow.set
  l1 := by rw [List.length_append, List.length_append, x.l1]; rfl
  l2 := by rw [List.length_append, List.length_append, x.l2]; rfl
  l3 := by rw [List.length_append, List.length_append, x.l3]; rfl
  tup := fun i u' p' c' h1 h2 h3 => by
    have := x.l1; have := x.l2
    rcases get_snoc h1 with ⟨_, h1⟩ | ⟨e1, rfl⟩
    · rcases get_snoc h2 with ⟨_, h2⟩ | ⟨e2, rfl⟩
      · rcases get_snoc h3 with ⟨_, h3⟩ | ⟨e3, rfl⟩
        · exact x.tup i u' p' c' h1 h2 h3
        · omega
      · omega
    · rcases get_snoc h2 with ⟨_, h2⟩ | ⟨e2, rfl⟩
      · omega
      · rcases get_snoc h3 with ⟨_, h3⟩ | ⟨e3, rfl⟩
        · omega
        · exact hu
  lst := fun i p' ys' h1 h2 => by
    have := x.l2; have := x.l3
    rcases get_snoc h1 with ⟨_, h1⟩ | ⟨e1, rfl⟩
    · rcases get_snoc h2 with ⟨_, h2⟩ | ⟨e2, rfl⟩
      · exact (x.lst i p' ys' h1 h2).other fun z => x.ne (by rw [← z]; exact List.mem_of_getElem? h1)
      · omega
    · rcases get_snoc h2 with ⟨_, h2⟩ | ⟨e2, rfl⟩
      · omega
      · exact w.other k.1
  dat := fun i ys' c' h1 h2 => by
    have := x.l3
    rcases get_snoc h1 with ⟨_, h1⟩ | ⟨e1, rfl⟩
    · rcases get_snoc h2 with ⟨_, h2⟩ | ⟨e2, rfl⟩
      · exact x.dat i ys' c' h1 h2
      · omega
    · rcases get_snoc h2 with ⟨_, h2⟩ | ⟨e2, rfl⟩
      · omega
      · exact al
  nd := nd_snoc x.nd k.2
  ne := fun z => by
    rcases List.mem_append.mp z with z | z
    · exact x.ne z
    · exact k.1 (List.mem_singleton.mp z).symm
theorem SeO.nil (w : Ow H F1 H1 D (.lst [])) : SeO H F1 H1 D [] [] [] [] :=
  ⟨w, rfl, rfl, rfl, (fun i u p c h => by cases h), (fun i p ys h => by cases h), (fun i ys c h => by cases h), List.nodup_nil, fun z => nomatch z⟩
/-- as it is read -/
theorem SeO.is (x : SeO H F1 H1 D us ps yss cs) (s : Same F1 H1) : Is H1 (.ref D) (cs.map suOf) := by
  refine ⟨D, _, rfl, x.ow.h, by rw [List.length_map, List.length_map, x.l1], fun i v d h1 h2 => ?_⟩
  rw [List.getElem?_map] at h1 h2
  cases hu : us[i]? with
  | none => rw [hu] at h1; cases h1
  | some u =>
    cases hc : cs[i]? with
    | none => rw [hc] at h2; cases h2
    | some c =>
      rw [hu] at h1; rw [hc] at h2
      cases h1; cases h2
      have l := (List.getElem?_eq_some_iff.mp hc).1
      have hp : ps[i]? = some _ := List.getElem?_eq_getElem (by rw [x.l2]; exact l)
      have hy : yss[i]? = some _ := List.getElem?_eq_getElem (by rw [x.l3]; exact l)
      exact ⟨u, _, _, _, rfl, s _ _ (x.tup i u _ c hu hp hc), rfl, rfl, _, _, rfl, (x.lst i _ _ hp hy).h, (x.dat i _ c hy hc).up s⟩
end
/-! ### the stretch -/
def IsLo (cs : List Cfg) (x : Int) : Prop := x ∈ cs.map (·.s) ∧ ∀ y ∈ cs.map (·.s), x ≤ y
def IsHi (cs : List Cfg) (x : Int) : Prop := x ∈ cs.map (·.s) ∧ ∀ y ∈ cs.map (·.s), y ≤ x
theorem IsLo.uniq {cs : List Cfg} {x y : Int} (a : IsLo cs x) (b : IsLo cs y) : x = y := by
  have := a.2 y b.1; have := b.2 x a.1; omega
theorem IsHi.uniq {cs : List Cfg} {x y : Int} (a : IsHi cs x) (b : IsHi cs y) : x = y := by
  have := a.2 y b.1; have := b.2 x a.1; omega
theorem IsLo.one : IsLo [c0] 0 := ⟨List.mem_singleton.mpr rfl, fun y m => by rw [List.mem_singleton.mp m]; exact Int.le_refl _⟩
theorem IsHi.one : IsHi [c0] 0 := ⟨List.mem_singleton.mpr rfl, fun y m => by rw [List.mem_singleton.mp m]; exact Int.le_refl _⟩
theorem IsLo.app {cs : List Cfg} {x : Int} (h : IsLo cs x) (c : Cfg) : IsLo (cs ++ [c]) (if c.s < x then c.s else x) := by
  refine ⟨?_, fun y m => ?_⟩
  · rw [List.map_append]
    split
    · exact List.mem_append_right _ (List.mem_singleton.mpr rfl)
    · exact List.mem_append_left _ h.1
  · rw [List.map_append] at m
    rcases List.mem_append.mp m with m | m
    · have := h.2 y m
      split <;> omega
    · rw [show y = c.s from List.mem_singleton.mp m]
      split <;> omega
theorem IsHi.app {cs : List Cfg} {x : Int} (h : IsHi cs x) (c : Cfg) : IsHi (cs ++ [c]) (if c.s > x then c.s else x) := by
  refine ⟨?_, fun y m => ?_⟩
  · rw [List.map_append]
    split
    · exact List.mem_append_right _ (List.mem_singleton.mpr rfl)
    · exact List.mem_append_left _ h.1
  · rw [List.map_append] at m
    rcases List.mem_append.mp m with m | m
    · have := h.2 y m
      split <;> omega
    · rw [show y = c.s from List.mem_singleton.mp m]
      split <;> omega
/-! ### the keys of a dict of ints -/
def dk (l : List PI) : List Int := l.map (·.a)
theorem dI_keys (l : List PI) : ((dI l).map fun kv => kV kv.1) = (dk l).map V.int := by
  unfold dI dk
  rw [List.map_map, List.map_map]; rfl
/-- what is read at a place -/
def gz (l : List PI) (x : Int) : Int := (look l x).getD 0
/-! ### what a run meets -/
theorem u65 {A : Around} {k : Nat} (hr : Room k A) : A.units + 65 < cLine := by have := hr.un; omega
theorem notin_dat {α : Type} [Dat α] [DecidableEq α] {K : PySem.W.Frag} {H : Hp} {x y : V} {d : α} {ds : List α} {Q : VK} (hx : Is H x d) (hy : Is H y ds) (q : Q (.bl (!decide (d ∈ ds))) H) (hd : Dat.dep α + 1 ≤ 64 := by decide) : rNotInD K x y H Q := by
  obtain ⟨h1, _, _⟩ := eq_dat0 (a := d) (b := d) (by omega)
  obtain ⟨h2, _, _⟩ := eq_dat0 (a := ds) (b := ds) hd
  refine ⟨Dat.py d, ds.map Dat.py, Dat.dp hx, Dat.dp hy, h1, h2, ?_⟩
  have e : ((ds.map Dat.py).any fun z => PyData.eqv z (Dat.py d)) = decide (d ∈ ds) := by
    rw [Bool.eq_iff_iff, List.any_eq_true, decide_eq_true_iff]
    constructor
    · rintro ⟨z, m, e⟩
      obtain ⟨c, mc, rfl⟩ := List.mem_map.mp m
      rw [(Dat.eqv c d).mp e] at mc
      exact mc
    · exact fun m => ⟨_, List.mem_map.mpr ⟨d, m, rfl⟩, (Dat.eqv d d).mpr rfl⟩
  rw [e]
  exact q
/-- row and sign that are looked up -/
def lkOf (c : Cfg) : PI := ⟨c.r, gz c.l c.s⟩
def met1 (acc : List PI) (c : Cfg) : List PI := if lkOf c ∈ acc then acc else acc ++ [lkOf c]
def met (cs : List Cfg) : List PI := cs.foldl met1 []
theorem met_app (cs : List Cfg) (c : Cfg) : met (cs ++ [c]) = met1 (met cs) c := by
  unfold met; rw [List.foldl_append]; rfl
theorem met_len (cs : List Cfg) : (met cs).length ≤ cs.length := by
  have h : ∀ (cs : List Cfg) (acc : List PI), (cs.foldl met1 acc).length ≤ acc.length + cs.length := by
    intro cs
    induction cs with
    | nil => intro acc; exact Nat.le_refl _
    | cons c cs ih =>
      intro acc
      have h1 := ih (met1 acc c)
      have h2 : (met1 acc c).length ≤ acc.length + 1 := by
        unfold met1
        split
        · omega
        · rw [List.length_append]; exact Nat.le_refl _
      show ((cs.foldl met1 (met1 acc c))).length ≤ _
      rw [List.length_cons]
      omega
  have := h cs []
  rw [List.length_nil, Nat.zero_add] at this
  exact this
/-- how often each place is read -/
def cnt1 (l : List PI) (c : Cfg) : List PI := put l c.s ((look l c.s).getD 0 + 1)
def cnt (cs : List Cfg) : List PI := cs.foldl cnt1 []
theorem cnt_app (cs : List Cfg) (c : Cfg) : cnt (cs ++ [c]) = cnt1 (cnt cs) c := by
  unfold cnt; rw [List.foldl_append]; rfl
theorem dk_put (l : List PI) (x v y : Int) : y ∈ dk (put l x v) ↔ y = x ∨ y ∈ dk l := by
  have h : ∀ m : List PI, y ∈ dk m ↔ look m y ≠ none := fun m => by
    rw [Ne, look_none]
    exact ⟨fun z w => w z, fun z => by
      by_cases w : y ∈ dk m
      · exact w
      · exact absurd w z⟩
  rw [h, h, look_put]
  by_cases e : y = x
  · rw [if_pos e]; exact ⟨fun _ => .inl e, fun _ => by exact fun z => nomatch z⟩
  · rw [if_neg e]; exact ⟨fun z => .inr z, fun z => z.elim (fun w => absurd w e) id⟩
theorem cnt_facts (cs : List Cfg) : Nd (cnt cs) ∧ (cnt cs).length ≤ cs.length ∧ ∀ y, y ∈ dk (cnt cs) ↔ y ∈ cs.map (·.s) := by
  have h : ∀ (cs : List Cfg) (l : List PI), Nd l → Nd (cs.foldl cnt1 l) ∧ (cs.foldl cnt1 l).length ≤ l.length + cs.length ∧ ∀ y, y ∈ dk (cs.foldl cnt1 l) ↔ (y ∈ cs.map (·.s) ∨ y ∈ dk l) := by
    intro cs
    induction cs with
    | nil => intro l nd; exact ⟨nd, Nat.le_refl _, fun y => ⟨fun z => .inr z, fun z => z.elim (fun w => nomatch w) id⟩⟩
    | cons c cs ih =>
      intro l nd
      obtain ⟨h1, h2, h3⟩ := ih (cnt1 l c) (nd_put nd _ _)
      have h4 : (cnt1 l c).length ≤ l.length + 1 := put_len _ _ _
      refine ⟨h1, by show (cs.foldl cnt1 (cnt1 l c)).length ≤ _; rw [List.length_cons]; omega, fun y => ?_⟩
      show y ∈ dk (cs.foldl cnt1 (cnt1 l c)) ↔ _
      rw [h3, show cnt1 l c = put l c.s ((look l c.s).getD 0 + 1) from rfl, dk_put, List.map_cons, List.mem_cons]
      constructor
      · rintro (z | z | z)
        · exact .inl (.inr z)
        · exact .inl (.inl z)
        · exact .inr z
      · rintro ((z | z) | z)
        · exact .inr (.inl z)
        · exact .inl z
        · exact .inr (.inr z)
  obtain ⟨a, b, c⟩ := h cs [] nd_nil
  refine ⟨a, by rw [List.length_nil, Nat.zero_add] at b; exact b, fun y => (c y).trans ⟨fun z => z.elim id (fun w => nomatch w), fun z => .inl z⟩⟩
/-- the moments at which a place beyond all before is read -/
def fresh (ps : List Cfg) (c : Cfg) : Bool := (ps.all fun b => decide (c.s < b.s)) || (ps.all fun b => decide (b.s < c.s))
def rec1 (st : List Cfg × List PI) (c : Cfg) : List Cfg × List PI := (st.1 ++ [c], if fresh st.1 c = true then st.2 ++ [⟨st.1.length, c.s⟩] else st.2)
def recs (cs : List Cfg) : List PI := (cs.foldl rec1 ([], [])).2
theorem rec_fst (cs : List Cfg) : (cs.foldl rec1 ([], [])).1 = cs := by
  have h : ∀ (cs : List Cfg) (st : List Cfg × List PI), (cs.foldl rec1 st).1 = st.1 ++ cs := by
    intro cs
    induction cs with
    | nil => intro st; rw [List.append_nil]; rfl
    | cons c cs ih =>
      intro st
      show (cs.foldl rec1 (rec1 st c)).1 = _
      rw [ih]
      show (st.1 ++ [c]) ++ cs = _
      rw [List.append_assoc]; rfl
  exact h cs ([], [])
theorem recs_app (cs : List Cfg) (c : Cfg) : recs (cs ++ [c]) = if fresh cs c = true then recs cs ++ [⟨cs.length, c.s⟩] else recs cs := by
  unfold recs
  rw [List.foldl_append]
  have e := rec_fst cs
  show (if fresh (cs.foldl rec1 ([], [])).1 c = true then (cs.foldl rec1 ([], [])).2 ++ [⟨(cs.foldl rec1 ([], [])).1.length, c.s⟩] else (cs.foldl rec1 ([], [])).2) = _
  rw [e]
theorem fresh_iff {cs : List Cfg} {c : Cfg} {lo hi : Int} (il : IsLo cs lo) (ih : IsHi cs hi) : fresh cs c = true ↔ (c.s < lo ∨ hi < c.s) := by
  unfold fresh
  rw [Bool.or_eq_true, List.all_eq_true, List.all_eq_true]
  constructor
  · rintro (h | h)
    · obtain ⟨b, m, e⟩ := List.mem_map.mp il.1
      have := of_decide_eq_true (h b m)
      exact .inl (by omega)
    · obtain ⟨b, m, e⟩ := List.mem_map.mp ih.1
      have := of_decide_eq_true (h b m)
      exact .inr (by omega)
  · rintro (h | h)
    · exact .inl fun b m => decide_eq_true (by have := il.2 b.s (List.mem_map.mpr ⟨b, m, rfl⟩); omega)
    · exact .inr fun b m => decide_eq_true (by have := ih.2 b.s (List.mem_map.mpr ⟨b, m, rfl⟩); omega)
theorem recs_len (cs : List Cfg) : (recs cs).length ≤ cs.length := by
  have h : ∀ (cs : List Cfg) (st : List Cfg × List PI), (cs.foldl rec1 st).2.length ≤ st.2.length + cs.length := by
    intro cs
    induction cs with
    | nil => intro st; exact Nat.le_refl _
    | cons c cs ih =>
      intro st
      have h1 := ih (rec1 st c)
      have h2 : (rec1 st c).2.length ≤ st.2.length + 1 := by
        unfold rec1
        show (if fresh st.1 c = true then st.2 ++ [⟨st.1.length, c.s⟩] else st.2).length ≤ _
        split
        · rw [List.length_append]; exact Nat.le_refl _
        · omega
      show (cs.foldl rec1 (rec1 st c)).2.length ≤ _
      rw [List.length_cons]
      omega
  have := h cs ([], [])
  rw [show ([] : List PI).length = 0 from rfl, Nat.zero_add] at this
  exact this
/-! ### where two part -/
def DiffAt (M N : Mach) (k : Nat) : Prop := ¬ (stepsC M k).map suOf = (stepsC N k).map suOf
def PartOf (M N : Mach) (n : Nat) : Option Nat → Prop
  | none => ∀ k, k ≤ n → ¬ DiffAt M N k
  | some k => k ≤ n ∧ DiffAt M N k ∧ ∀ j, j < k → ¬ DiffAt M N j
theorem PartOf.uniq {M N : Mach} {n : Nat} : ∀ {o o' : Option Nat}, PartOf M N n o → PartOf M N n o' → o = o'
  | none, none, _, _ => rfl
  | none, some k, a, ⟨h1, h2, _⟩ => (a k h1 h2).elim
  | some k, none, ⟨h1, h2, _⟩, b => (b k h1 h2).elim
  | some k, some k', ⟨h1, h2, h3⟩, ⟨k1, k2, k3⟩ => by
    have a : ¬ k' < k := fun z => h3 k' z k2
    have b : ¬ k < k' := fun z => k3 k z h2
    rw [show k = k' by omega]
theorem PartOf.symm {M N : Mach} {n : Nat} {o : Option Nat} (h : PartOf M N n o) : PartOf N M n o := by
  have s : ∀ k, DiffAt N M k ↔ DiffAt M N k := fun k => ⟨fun z w => z w.symm, fun z w => z w.symm⟩
  cases o with
  | none => exact fun k l => by rw [s]; exact h k l
  | some k => exact ⟨h.1, (s k).mpr h.2.1, fun j l => by rw [s]; exact h.2.2 j l⟩
theorem PartOf.self {M : Mach} {n : Nat} : PartOf M M n none := fun k _ z => z rfl
def optV : Option Nat → V
  | none => .non
  | some k => .int k
theorem su_dat {H : Hp} {u p : Addr} {c : Cfg} {xs : List V} (hu : H u = some (.tup [.int c.r, .int c.s, .ref p])) (hp : H p = some (.lst xs)) (al : IsAll H xs (told c.l)) : Is H (.ref u) (suOf c) :=
  ⟨u, _, _, _, rfl, hu, rfl, rfl, p, xs, rfl, hp, al⟩
def sp_parts_from : Sp := fun vs H Q _ => ∃ (F : Hp) (v1 v2 : V) (M N : Mach) (R S R' S' n : Nat), vs = [v1, v2, .int n] ∧ Same F H ∧ Is F v1 M ∧ MOk M R S ∧ Is F v2 N ∧ MOk N R' S' ∧ n ≤ 5000 ∧
  ∀ (F' H' : Hp) (o : Option Nat), Gr mu0 F H F' H' → PartOf M N n o → Q (optV o) H'
theorem ok_parts_from (t : Tx K mg) : FnOk P w K mg base CX0 4 t.a_parts_from t.fd_parts_from ["one", "other", "most"] sp_parts_from := by
  refine t.F_parts_from.ok sc_parts_from (fun vs H Q E h => ?_) (fun cdv A outer s H vs Q E hr h => ?_)
  · obtain ⟨F, v1, v2, M, N, R, S, R', S', n, rfl, _⟩ := h
    rfl
  · obtain ⟨F, v1, v2, M, N, R, S, R', S', n, rfl, sF, hm, hM, hm', hN, hn, q⟩ := h
    refine ⟨_, (pss_cons (ps_expr (pe_call (ok_must_machine t) (hr.mono (by decide)) (by rfl) t.m_must_machine t.F_must_machine.kp t.b_must_machine .nil pass0 (pa_cons (pv 0) pa_nil)))
      (pss_cons (ps_expr (pe_call (ok_must_machine t) (hr.mono (by decide)) (by rfl) t.m_must_machine t.F_must_machine.kp t.b_must_machine .nil pass0 (pa_cons (pv 1) pa_nil)))
      (pss_cons (ps_set (i := 3) sc_parts_from.nd rfl (by first | exact Or.inl rfl | exact Or.inr rfl) (pe_make t.M_Goer (ok_Goer_init t) (hr.mono (by decide)) (by rfl) t.m_Goer t.b_Goer_init .nil pass0 (pa_cons (pv 0) (pa_cons (pe_tup (pa_cons pe_int (pa_cons pe_int (pa_cons (pe_lst pa_nil) pa_nil)))) pa_nil))))
      (pss_cons (ps_set (i := 4) sc_parts_from.nd rfl (by first | exact Or.inl rfl | exact Or.inr rfl) (pe_make t.M_Goer (ok_Goer_init t) (hr.mono (by decide)) (by rfl) t.m_Goer t.b_Goer_init .nil pass0 (pa_cons (pv 1) (pa_cons (pe_tup (pa_cons pe_int (pa_cons pe_int (pa_cons (pe_lst pa_nil) pa_nil)))) pa_nil))))
      (pss_cons (ps_while PassesOwn.never (pt_cmpR op_lt (pe_fld (pv 3) rfl) (pv 2) (nomark _)) (pss_cons (ps_set (i := 5) sc_parts_from.nd rfl (by first | exact Or.inl rfl | exact Or.inr rfl) (pe_meth0 (pv 3) t.cl_Goer t.M_Goer_step (ok_Goer_step t) (hr.mono (by decide)) t.b_Goer_step .nil pass0))
      (pss_cons (ps_if (pt_cmpR op_ne (pe_meth0 (pv 4) t.cl_Goer t.M_Goer_step (ok_Goer_step t) (hr.mono (by decide)) t.b_Goer_step .nil pass0) (pv 5) (nomark _)) (pss_one (ps_ret (pe_callB (id := "max") (call_max2 rfl) (by rfl) t.n_max (by decide +kernel) (pa_cons (pe_fld (pv 3) rfl) (pa_cons (pe_fld (pv 4) rfl) pa_nil))))) pss_nil)
      (pss_cons (ps_if (pt_not (pt_val (pv 5))) (pss_one (ps_ret pe_non)) pss_nil)
      (pss_one (ps_if (pt_cmpR (op_neD hr.units) (pe_meth0 (pv 3) t.cl_Goer t.M_Goer_setup (ok_Goer_setup t) (hr.mono (by decide)) t.b_Goer_setup .nil pass0) (pe_meth0 (pv 4) t.cl_Goer t.M_Goer_setup (ok_Goer_setup t) (hr.mono (by decide)) t.b_Goer_setup .nil pass0) (nomark _)) (pss_one (ps_ret (pe_fld (pv 3) rfl))) pss_nil))))))
      (pss_one (ps_ret pe_non))))))), ?_⟩
    refine ⟨_, rfl, F, v1, M, R, S, rfl, sF, hm, hM, fun Ha ga0 => ?_⟩
    refine ⟨_, rfl, F, v2, N, R', S', rfl, ga0.fh, hm', hN, fun Hb gb0 => ?_⟩
    have g0 := ga0.trans gb0
    -- here
    refine ⟨_, rfl, nil_le, fun l nl => ⟨three_le, fun u nu => ?_⟩⟩
    have g1 := g0.new (o := .lst []) nl
    have g2 := g1.new (o := .tup [.int 0, .int 0, .ref l]) nu
    have hx : Is (upd (upd F l (.lst [])) u (.tup [.int 0, .int 0, .ref l])) (.ref u) (⟨0, 0, []⟩ : Setup) := ⟨u, _, _, _, rfl, upd_same, rfl, rfl, l, [], rfl, ln (g1.fh.free nu) upd_same, All2.nil⟩
    generalize upd (upd F l (.lst [])) u (.tup [.int 0, .int 0, .ref l]) = F2 at g2 hx
    generalize upd (upd Hb l (.lst [])) u (.tup [.int 0, .int 0, .ref l]) = H2 at g2
    refine fun y dy ny ndy ney => ?_
    have g3 := g2.own (o := .own y) ndy
    have ny2 : (upd H2 dy (.own y)) y = none := by rw [upd_ne ney.symm]; exact ny
    have g4 := g3.own (o := .ins t.C_Goer dy []) ny2
    have hy : H y = none := g2.th _ ny
    have fy : F2 y = none := g2.fh.free ny
    refine ⟨F2, y, dy, v1, .ref u, _, rfl, upd_same, fy, g4.fh, hx, fun d H5 nd5 g5 ga => ⟨rfl, ?_⟩⟩
    have g6 := g4.thn g5 fun c z => .inr (by rw [show c = y from z]; exact hy)
    have hd : H d = none := g4.th _ nd5
    have fd : F2 d = none := g4.fh.free nd5
    have hm2 := hm.up g2.ff
    have hm2' := hm'.up g2.ff
    clear g3 g4 g5 g1 hx ny2 nd5 ny ndy ney
    -- there
    refine ⟨_, rfl, nil_le, fun l' nl' => ⟨three_le, fun u' nu' => ?_⟩⟩
    obtain ⟨⟨dx0, ho0⟩, hd0⟩ := id ga
    have g1 := g6.new (o := .lst []) nl'
    have g3 := g1.new (o := .tup [.int 0, .int 0, .ref l']) nu'
    have hx : Is (upd (upd F2 l' (.lst [])) u' (.tup [.int 0, .int 0, .ref l'])) (.ref u') (⟨0, 0, []⟩ : Setup) := ⟨u', _, _, _, rfl, upd_same, rfl, rfl, l', [], rfl, ln (g1.fh.free nu') upd_same, All2.nil⟩
    have ga3 : GoAt t.C_Goer _ y d v1 0 0 [] 0 := ⟨⟨dx0, ln (u := .tup [.int 0, .int 0, .ref l']) nu' (ln (u := .lst []) nl' ho0)⟩, ln nu' (ln nl' hd0)⟩
    have fy3 : (upd (upd F2 l' (.lst [])) u' (.tup [.int 0, .int 0, .ref l'])) y = none := by rw [upd_ne (ne_of_none (ln nl' ho0) nu'), upd_ne (ne_of_none ho0 nl')]; exact fy
    have fd3 : (upd (upd F2 l' (.lst [])) u' (.tup [.int 0, .int 0, .ref l'])) d = none := by rw [upd_ne (ne_of_none (ln nl' hd0) nu'), upd_ne (ne_of_none hd0 nl')]; exact fd
    have s23 : Same F2 (upd (upd F2 l' (.lst [])) u' (.tup [.int 0, .int 0, .ref l'])) := sm_new (sm_new (Same.refl F2) (g6.fh.free nl')) (g1.fh.free nu')
    generalize upd (upd F2 l' (.lst [])) u' (.tup [.int 0, .int 0, .ref l']) = F3 at g3 hx fy3 fd3 s23
    generalize upd (upd H5 l' (.lst [])) u' (.tup [.int 0, .int 0, .ref l']) = H3 at g3 ga3
    refine fun y' dy' ny' ndy' ney' => ?_
    have g4 := g3.own (o := .own y') ndy'
    have ny2' : (upd H3 dy' (.own y')) y' = none := by rw [upd_ne ney'.symm]; exact ny'
    have g5 := g4.own (o := .ins t.C_Goer dy' []) ny2'
    have hy' : H y' = none := g3.th _ ny'
    have fy' : F3 y' = none := g3.fh.free ny'
    obtain ⟨⟨dx3, ho3⟩, hd3⟩ := id ga3
    have yy : y ≠ y' := ne_of_none ho3 ny'
    have dy1 : d ≠ y' := ne_of_none hd3 ny'
    refine ⟨F3, y', dy', v2, .ref u', _, rfl, upd_same, fy', g5.fh, hx, fun d' H6 nd6 g7 ga' => ⟨rfl, ?_⟩⟩
    have ho5 := ln (u := .ins t.C_Goer dy' []) ny2' (ln (u := .own y') ndy' ho3)
    have hd5 := ln (u := .ins t.C_Goer dy' []) ny2' (ln (u := .own y') ndy' hd3)
    have yd : y ≠ d' := ne_of_none ho5 nd6
    have dd : d ≠ d' := ne_of_none hd5 nd6
    have g8 := g5.thn g7 fun c z => .inr (by rw [show c = y' from z]; exact hy')
    have hd' : H d' = none := g5.th _ nd6
    have fd' : F3 d' = none := g5.fh.free nd6
    have ga8 : GoAt t.C_Goer H6 y d v1 0 0 [] 0 := ⟨⟨dx3, g7.fr _ _ ho5 yy⟩, g7.fr _ _ hd5 dy1⟩
    have hm3 := hm2.up s23
    have hm3' := hm2'.up s23
    clear g1 g3 g4 g5 g6 g7 hx ga ga3 ho0 hd0 ho3 hd3 ho5 hd5
    -- while here.steps < most
    refine ⟨fun k σ G => ∃ (F1 : Hp) (j : Nat) (c c' : Cfg) (v5 : Option V), k = n - j ∧ σ = [some v1, some v2, some (.int n), some (.ref y), some (.ref y'), v5] ∧ Gr mu0 F H F1 G ∧ F1 y = none ∧ F1 d = none ∧ F1 y' = none ∧ F1 d' = none ∧ Same F3 F1 ∧ GoAt t.C_Goer G y d v1 c.r c.s c.l j ∧ GoAt t.C_Goer G y' d' v2 c'.r c'.s c'.l j ∧ stepsC M j = some c ∧ stepsC N j = some c' ∧ j ≤ n ∧ ∀ k, k ≤ j → ¬ DiffAt M N k,
      ⟨_, F3, 0, c0, c0, none, rfl, rfl, g8, fy3, fd3, fy', fd', Same.refl _, ga8, ga', rfl, rfl, Nat.zero_le _, fun k h z => z (by rw [show k = 0 by omega]; rfl)⟩, ?_⟩
    rintro k σ G ⟨F1, j, c, c', v5, rfl, rfl, g, fy1, fd1, fy1', fd1', s1, ga, ga', st, st', lj, hno⟩
    obtain ⟨ok, ll⟩ := stepsC_ok hM st
    obtain ⟨ok', ll'⟩ := stepsC_ok hN st'
    obtain ⟨row, er, s0, ee, eo⟩ := ok.ent hM
    obtain ⟨row', er', s0', ee', eo'⟩ := ok'.ent hN
    obtain ⟨⟨dx, ho⟩, hdc⟩ := id ga
    have hm1 := hm3.up s1
    have hm1' := hm3'.up s1
    refine ⟨_, rfl, y, t.C_Goer, dx, _, _, rfl, ho, t.cl_Goer, t.nA_Goer_steps, Goer_get_steps, _, rfl, _, _, rfl, rfl, _, rfl, ?_⟩
    refine ite2 (fun cl => ?_) (fun cl => ?_)
    rotate_left
    · have cl : ¬ (j : Int) < n := fun z => cl (decide_eq_true z)
      exact q F1 G none g fun k hk => hno k (by omega)
    have cl : (j : Int) < n := of_decide_eq_true cl
    refine ⟨_, fun _ _ h => h, ?_⟩
    -- goes = here.step()
    refine ⟨_, rfl, y, dx, _, rfl, ho, Goer_no (by decide +kernel) (by decide +kernel) (by decide +kernel) (by decide +kernel) (by decide +kernel), F1, y, d, v1, M, c.r, c.s, c.l, j, row, entOf M c, rfl, g.fh, fy1, fd1, hm1, ga, ok.r0, er, s0, ee, by omega, fun he H6 g6 => ?_, fun p w' r' he H6 g6 gb => ?_⟩
    · -- the one ends
      have gg := g.trans g6
      have ga2 := ga.gr g6 (fun z => z) (fun z => z)
      have ga2' := ga'.gr g6 (fun z => z) (fun z => z)
      obtain ⟨⟨dx2, ho2⟩, hdc2⟩ := id ga2
      obtain ⟨⟨dx', ho'⟩, hdc'⟩ := id ga2'
      have st2 := (stepsC_next st).trans (stepC_none.mpr he)
      refine ⟨_, rfl, y', dx', _, rfl, ho', Goer_no (by decide +kernel) (by decide +kernel) (by decide +kernel) (by decide +kernel) (by decide +kernel), F1, y', d', v2, N, c'.r, c'.s, c'.l, j, row', entOf N c', rfl, g6.fh, fy1', fd1', hm1', ga2', ok'.r0, er', s0', ee', by omega, fun he' H7 g7 => ?_, fun p2 w2 r2 he' H7 g7 gb' => ?_⟩
      · refine ⟨_, rfl, rfl, _, rfl, ifF rfl ?_⟩
        refine ⟨_, rfl, _, rfl, ifT rfl ?_⟩
        refine q F1 H7 none (gg.trans g7) fun k hk => ?_
        by_cases kj : k ≤ j
        · exact hno k kj
        · intro z
          have e1 := stepsC_end st (stepC_none.mpr he) (k - (j + 1))
          have e2 := stepsC_end st' (stepC_none.mpr he') (k - (j + 1))
          rw [show j + 1 + (k - (j + 1)) = k by omega] at e1 e2
          exact z (by rw [e1, e2])
      · have st2' := (stepsC_next st').trans (stepC_go he')
        have g17 := gg.thn g7 (fun c z => .inr (by rcases z with rfl | rfl <;> assumption))
        refine ⟨_, rfl, rfl, _, rfl, ifT rfl ?_⟩
        have ho7 := g7.fr _ _ ho2 (fun z => by rcases z with z | z; exact yy z; exact yd z)
        obtain ⟨⟨dx7, ho7'⟩, _⟩ := id gb'
        refine ⟨_, rfl, y, t.C_Goer, dx2, _, _, rfl, ho7, t.cl_Goer, t.nA_Goer_steps, Goer_get_steps, _, rfl, y', t.C_Goer, dx7, _, _, rfl, ho7', t.cl_Goer, t.nA_Goer_steps, Goer_get_steps, _, _, rfl, ?_⟩
        rw [if_pos (by omega)]
        refine q F1 H7 (some (j + 1)) g17 ⟨by omega, fun z => ?_, fun k hk => hno k (by omega)⟩
        rw [st2, st2'] at z
        cases z
    · -- the one goes on
      have gg := g.thn g6 (fun c z => .inr (by rcases z with rfl | rfl <;> assumption))
      have ga2' := ga'.gr g6 (fun z => by rcases z with z | z; exact yy z.symm; exact dy1 z.symm) (fun z => by rcases z with z | z; exact yd z.symm; exact dd z.symm)
      obtain ⟨⟨dx2, ho2⟩, hdc2⟩ := id gb
      obtain ⟨⟨dx', ho'⟩, hdc'⟩ := id ga2'
      have st2 := (stepsC_next st).trans (stepC_go he)
      refine ⟨_, rfl, y', dx', _, rfl, ho', Goer_no (by decide +kernel) (by decide +kernel) (by decide +kernel) (by decide +kernel) (by decide +kernel), F1, y', d', v2, N, c'.r, c'.s, c'.l, j, row', entOf N c', rfl, g6.fh, fy1', fd1', hm1', ga2', ok'.r0, er', s0', ee', by omega, fun he' H7 g7 => ?_, fun p2 w2 r2 he' H7 g7 gb' => ?_⟩
      · have st2' := (stepsC_next st').trans (stepC_none.mpr he')
        refine ⟨_, rfl, rfl, _, rfl, ifT rfl ?_⟩
        have ho7 := g7.fr _ _ ho2 fun z => z
        have ho7' := g7.fr _ _ ho' fun z => z
        refine ⟨_, rfl, y, t.C_Goer, dx2, _, _, rfl, ho7, t.cl_Goer, t.nA_Goer_steps, Goer_get_steps, _, rfl, y', t.C_Goer, dx', _, _, rfl, ho7', t.cl_Goer, t.nA_Goer_steps, Goer_get_steps, _, _, rfl, ?_⟩
        rw [if_neg (by omega)]
        refine q F1 H7 (some (j + 1)) (gg.trans g7) ⟨by omega, fun z => ?_, fun k hk => hno k (by omega)⟩
        rw [st2, st2'] at z
        cases z
      · have st2' := (stepsC_next st').trans (stepC_go he')
        have g17 := gg.thn g7 (fun c z => .inr (by rcases z with rfl | rfl <;> assumption))
        refine ⟨_, rfl, rfl, _, rfl, ifF rfl ?_⟩
        refine ⟨_, rfl, _, rfl, ifF rfl ?_⟩
        have ga7 := gb.gr g7 (fun z => by rcases z with z | z; exact yy z; exact yd z) (fun z => by rcases z with z | z; exact dy1 z; exact dd z)
        obtain ⟨⟨dx7, ho7⟩, hdc7⟩ := id ga7
        obtain ⟨ok2, ll2⟩ := stepsC_ok hM st2
        obtain ⟨ok2', ll2'⟩ := stepsC_ok hN st2'
        have ll2 : (put c.l c.s p).length ≤ j + 1 := ll2
        have ll2' : (put c'.l c'.s p2).length ≤ j + 1 := ll2'
        obtain ⟨⟨dxb, hob⟩, hdb⟩ := id gb'
        -- here.setup() != there.setup()
        refine ⟨_, rfl, y, dx7, _, rfl, ho7, Goer_no (by decide +kernel) (by decide +kernel) (by decide +kernel) (by decide +kernel) (by decide +kernel), F1, y, d, v1, _, _, _, _, rfl, g7.fh, ga7, by omega, fun F8 H8 q8 u8 xs8 g8 w8 al8 wu8 => ?_⟩
        have ga8 := ga7.gr g8 (fun z => z) (fun z => z)
        have gb8 := gb'.gr g8 (fun z => z) (fun z => z)
        obtain ⟨⟨dx8, ho8⟩, hdc8⟩ := id gb8
        refine ⟨_, rfl, y', dx8, _, rfl, ho8, Goer_no (by decide +kernel) (by decide +kernel) (by decide +kernel) (by decide +kernel) (by decide +kernel), F8, y', d', v2, _, _, _, _, rfl, g8.fh, gb8, by omega, fun F9 H9 q9 u9 xs9 g9 w9 al9 wu9 => ?_⟩
        have ga9 := ga8.gr g9 (fun z => z) (fun z => z)
        have gb9 := gb8.gr g9 (fun z => z) (fun z => z)
        have g19 := (g17.trans g8).trans g9
        have i1 : Is H9 (.ref u8) (suOf ⟨r', c.s + w', put c.l c.s p⟩) := su_dat (g9.fr _ _ wu8.h fun z => z) (g9.fr _ _ w8.h fun z => z) ((al8.up g9.ff).up g9.fh)
        have i2 : Is H9 (.ref u9) (suOf ⟨r2, c'.s + w2, put c'.l c'.s p2⟩) := su_dat wu9.h w9.h (al9.up g9.fh)
        refine ne_dat (a := suOf ⟨r', c.s + w', put c.l c.s p⟩) (b := suOf ⟨r2, c'.s + w2, put c'.l c'.s p2⟩) i1 i2 ⟨_, rfl, ?_⟩
        obtain ⟨⟨dx9, ho9⟩, hdc9⟩ := id ga9
        obtain ⟨⟨dx9', ho9'⟩, hdc9'⟩ := id gb9
        have dif : DiffAt M N (j + 1) ↔ ¬ suOf ⟨r', c.s + w', put c.l c.s p⟩ = suOf ⟨r2, c'.s + w2, put c'.l c'.s p2⟩ := by
          unfold DiffAt
          rw [st2, st2']
          exact ⟨fun z w => z (congrArg some w), fun z w => z (Option.some.inj w)⟩
        refine ite2 (fun cd => ?_) (fun cd => ?_)
        · refine ⟨_, rfl, y, t.C_Goer, dx9, _, _, rfl, ho9, t.cl_Goer, t.nA_Goer_steps, Goer_get_steps, ?_⟩
          exact q F9 H9 (some (j + 1)) g19 ⟨by omega, dif.mpr (fun z => by rw [decide_eq_true z] at cd; cases cd), fun k hk => hno k (by omega)⟩
        · refine ⟨n - (j + 1), by omega, F9, j + 1, _, _, _, rfl, rfl, g19, g9.pf (g8.pf fy1 ho7) (g8.fr _ _ ho7 fun z => z), g9.pf (g8.pf fd1 hdc7) (g8.fr _ _ hdc7 fun z => z), g9.pf (g8.pf fy1' hob) ho8, g9.pf (g8.pf fd1' hdb) hdc8, fun c o h => g9.ff _ _ (g8.ff _ _ (s1 _ _ h)), ga9, gb9, st2, st2', by omega, fun k hk => ?_⟩
          by_cases kj : k ≤ j
          · exact hno k kj
          · rw [show k = j + 1 by omega, dif]
            intro z
            exact cd (by rw [decide_eq_false z]; rfl)
theorem gone_none {M : Mach} {n k l : Nat} {c : Cfg} (go : Gone M n k c) (h : k < l) (hl : l ≤ n) : stepsC M l = none := by
  rcases go.fin with e | e
  · have := stepsC_end go.stp e (l - (k + 1))
    rw [show k + 1 + (l - (k + 1)) = l by omega] at this
    exact this
  · omega
def sp_met : Sp := fun vs H Q _ => ∃ (F : Hp) (m : V) (M : Mach) (R S n : Nat), vs = [m, .int n] ∧ Same F H ∧ Is F m M ∧ MOk M R S ∧ n ≤ 5000 ∧
  ∀ (F' H' : Hp) (D : Addr) (xs : List V) (cs : List Cfg) (k : Nat) (c : Cfg), Gr mu0 F H F' H' → Gone M n k c → Hist M k cs → Ow H F' H' D (.lst xs) → IsAll F' xs (met cs) → Q (.ref D) H'
theorem ok_met_entries (t : Tx K mg) : FnOk P w K mg base CX0 4 t.a_met_entries t.fd_met_entries ["machine", "most"] sp_met := by
  refine t.F_met_entries.ok sc_met_entries (fun vs H Q E h => ?_) (fun cdv A outer s H vs Q E hr h => ?_)
  · obtain ⟨F, m, M, R, S, n, rfl, _⟩ := h
    rfl
  · obtain ⟨F, m, M, R, S, n, rfl, sF, hm, hM, hn, q⟩ := h
    refine ⟨_, (pss_cons (ps_expr (pe_call (ok_must_machine t) (hr.mono (by decide)) (by rfl) t.m_must_machine t.F_must_machine.kp t.b_must_machine .nil pass0 (pa_cons (pv 0) pa_nil)))
      (pss_cons (ps_set (i := 2) sc_met_entries.nd rfl (by first | exact Or.inl rfl | exact Or.inr rfl) (pe_make t.M_Goer (ok_Goer_init t) (hr.mono (by decide)) (by rfl) t.m_Goer t.b_Goer_init .nil pass0 (pa_cons (pv 0) (pa_cons (pe_tup (pa_cons pe_int (pa_cons pe_int (pa_cons (pe_lst pa_nil) pa_nil)))) pa_nil))))
      (pss_cons (ps_set (i := 3) sc_met_entries.nd rfl (by first | exact Or.inl rfl | exact Or.inr rfl) (pe_lst (pa_cons (pe_tup (pa_cons pe_int (pa_cons pe_int pa_nil))) pa_nil)))
      (pss_cons (ps_while PassesOwn.never (PW.pt (pw_and (pt_cmpR op_lt (pe_fld (pv 2) rfl) (pv 1) (nomark _)) (pw_and1 (pt_val (pe_meth0 (pv 2) t.cl_Goer t.M_Goer_step (ok_Goer_step t) (hr.mono (by decide)) t.b_Goer_step .nil pass0))))) (pss_cons (ps_set (i := 4) sc_met_entries.nd rfl (by first | exact Or.inl rfl | exact Or.inr rfl) (pe_tup (pa_cons (pe_fld (pv 2) rfl) (pa_cons (pe_dget2 (hu_of hr) (pe_fld (pv 2) rfl) (pe_fld (pv 2) rfl) pe_int ⟨by rfl, by rfl, by rfl, by rfl⟩) pa_nil))))
      (pss_one (ps_if (pt_cmpR (op_notInD (u65 hr)) (pv 4) (pv 3) (by rfl)) (pss_one (ps_expr (pe_bm PySem.F.plainAttrs_list PySem.F.slot_list_append PySem.F.type_list_append mt_append (pv 3) (pa_cons (pv 4) pa_nil)))) pss_nil))))
      (pss_one (ps_ret (pv 3))))))), ?_⟩
    refine ⟨_, rfl, F, m, M, R, S, rfl, sF, hm, hM, fun Ha ga0 => ?_⟩
    refine ⟨_, rfl, nil_le, fun l nl => ⟨three_le, fun u nu => ?_⟩⟩
    have g1 := ga0.new (o := .lst []) nl
    have g2 := g1.new (o := .tup [.int 0, .int 0, .ref l]) nu
    have hx : Is (upd (upd F l (.lst [])) u (.tup [.int 0, .int 0, .ref l])) (.ref u) (⟨0, 0, []⟩ : Setup) := ⟨u, _, _, _, rfl, upd_same, rfl, rfl, l, [], rfl, ln (g1.fh.free nu) upd_same, All2.nil⟩
    generalize upd (upd F l (.lst [])) u (.tup [.int 0, .int 0, .ref l]) = F2 at g2 hx
    generalize upd (upd Ha l (.lst [])) u (.tup [.int 0, .int 0, .ref l]) = H2 at g2
    refine fun y dy ny ndy ney => ?_
    have g3 := g2.own (o := .own y) ndy
    have ny2 : (upd H2 dy (.own y)) y = none := by rw [upd_ne ney.symm]; exact ny
    have g4 := g3.own (o := .ins t.C_Goer dy []) ny2
    have hy : H y = none := g2.th _ ny
    have fy : F2 y = none := g2.fh.free ny
    refine ⟨F2, y, dy, m, .ref u, _, rfl, upd_same, fy, g4.fh, hx, fun d H5 nd5 g5 ga => ⟨rfl, ?_⟩⟩
    have g6 := g4.thn g5 fun c z => .inr (by rw [show c = y from z]; exact hy)
    have hd : H d = none := g4.th _ nd5
    have fd : F2 d = none := g4.fh.free nd5
    have hm2 := hm.up g2.ff
    -- found = [(0, 0)]
    refine ⟨two_le, fun t0 nt0 => ⟨one_le, fun D nD => ?_⟩⟩
    have g7 := g6.new (o := .tup [.int 0, .int 0]) nt0
    have ht0 : (upd F2 t0 (.tup [.int 0, .int 0])) t0 = some (.tup [.int 0, .int 0]) := upd_same
    have s27 : Same F2 (upd F2 t0 (.tup [.int 0, .int 0])) := sm_new (Same.refl F2) (g6.fh.free nt0)
    obtain ⟨⟨dx0, ho0⟩, hdc0⟩ := id ga
    have fy7 : (upd F2 t0 (.tup [.int 0, .int 0])) y = none := by rw [upd_ne (ne_of_none ho0 nt0)]; exact fy
    have fd7 : (upd F2 t0 (.tup [.int 0, .int 0])) d = none := by rw [upd_ne (ne_of_none hdc0 nt0)]; exact fd
    have ga7 : GoAt t.C_Goer _ y d m 0 0 [] 0 := ⟨⟨dx0, ln nD (ln (u := .tup [.int 0, .int 0]) nt0 ho0)⟩, ln (u := .lst [.ref t0]) nD (ln nt0 hdc0)⟩
    have g8 := g7.own (o := .lst [.ref t0]) nD
    have w8 : Ow H _ (upd _ D (.lst [.ref t0])) D (.lst [.ref t0]) := Ow.mk1 g7 nD
    generalize upd F2 t0 (.tup [.int 0, .int 0]) = F7 at g8 w8 ht0 s27 fy7 fd7
    refine ⟨fun k σ G => ∃ (F1 : Hp) (j : Nat) (c : Cfg) (xs : List V) (cs : List Cfg) (v4 : Option V), k = n - j ∧ σ = [some m, some (.int n), some (.ref y), some (.ref D), v4] ∧ Gr mu0 F H F1 G ∧ F1 y = none ∧ F1 d = none ∧ Same F2 F1 ∧ GoAt t.C_Goer G y d m c.r c.s c.l j ∧ stepsC M j = some c ∧ j ≤ n ∧ Hist M j cs ∧ Ow H F1 G D (.lst xs) ∧ IsAll F1 xs (met cs),
      ⟨_, F7, 0, c0, _, [c0], none, rfl, rfl, g8, fy7, fd7, s27, ga7, rfl, Nat.zero_le _, Hist.one, w8, All2.one ⟨t0, _, _, rfl, ht0, rfl, rfl⟩⟩, ?_⟩
    rintro k σ G ⟨F1, j, c, xs, cs, v4, rfl, rfl, g, fy, fd, s2, ga, st, lj, hh, w, al⟩
    obtain ⟨ok, ll⟩ := stepsC_ok hM st
    obtain ⟨row, er, s0, ee, eo⟩ := ok.ent hM
    obtain ⟨⟨dx, ho⟩, hdc⟩ := id ga
    have hm1 := hm2.up s2
    have yD : D ≠ y := ne_of w.h ho (by intro z; cases z)
    have dD : D ≠ d := ne_of w.h hdc (by intro z; cases z)
    have lcs := hh.1
    have lxs : xs.length ≤ j + 1 := by rw [al.1, ← lcs]; exact met_len cs
    refine ⟨_, rfl, y, t.C_Goer, dx, _, _, rfl, ho, t.cl_Goer, t.nA_Goer_steps, Goer_get_steps, _, rfl, _, _, rfl, rfl, _, rfl, ?_⟩
    refine ite2 (fun cl => ?_) (fun cl => ?_)
    · have cl : (j : Int) < n := of_decide_eq_true cl
      refine ⟨_, rfl, y, dx, _, rfl, ho, Goer_no (by decide +kernel) (by decide +kernel) (by decide +kernel) (by decide +kernel) (by decide +kernel), F1, y, d, m, M, c.r, c.s, c.l, j, row, entOf M c, rfl, g.fh, fy, fd, hm1, ga, ok.r0, er, s0, ee, by omega, fun he H6 g6 => ⟨_, rfl, iteF ?_⟩, fun p w' r' he H6 g6 gb => ⟨_, rfl, iteT ?_⟩⟩
      · exact ⟨_, rfl, q F1 H6 D xs cs j c (g.trans g6) ⟨lj, st, .inl (stepC_none.mpr he)⟩ hh (w.call g6 fun z => z) al⟩
      · refine ⟨_, fun _ _ h => h, ?_⟩
        have st1 := stepC_go he
        have st2 := (stepsC_next st).trans st1
        obtain ⟨ok2, ll2⟩ := stepsC_ok hM st2
        have g16 := g.thn g6 (fun c z => .inr (by rcases z with rfl | rfl <;> assumption))
        obtain ⟨⟨dx6, ho6⟩, hdc6⟩ := id gb
        have w6 := w.call g6 (fun z => by rcases z with z | z; exact yD z; exact dD z)
        -- one = (goer.row, goer.signs.get(goer.spot, 0))
        refine ⟨_, rfl, y, t.C_Goer, dx6, _, _, rfl, ho6, t.cl_Goer, t.nA_Goer_row, Goer_get_row, ?_⟩
        refine ⟨_, rfl, y, t.C_Goer, dx6, _, _, rfl, ho6, t.cl_Goer, t.nA_Goer_signs, Goer_get_signs, d, rfl, .inl ⟨_, .inl hdc6⟩, ?_⟩
        refine ⟨_, rfl, y, t.C_Goer, dx6, _, _, rfl, ho6, t.cl_Goer, t.nA_Goer_spot, Goer_get_spot, _, DGet.k (k := Sum.inl (c.s + w')) hdc6, ?_⟩
        rw [dI_val, getD_int]
        refine ⟨two_le, fun u nu => ?_⟩
        obtain ⟨c2, ec2⟩ : ∃ c2 : Cfg, c2 = ⟨r', c.s + w', put c.l c.s p⟩ := ⟨_, rfl⟩
        have g7 := g16.new (o := .tup [.int r', .int ((look (put c.l c.s p) (c.s + w')).getD 0)]) nu
        have s7 : Same F1 (upd F1 u (.tup [.int r', .int ((look (put c.l c.s p) (c.s + w')).getD 0)])) := sm_new (Same.refl F1) (g16.fh.free nu)
        have w7 := w6.new (u := .tup [.int r', .int ((look (put c.l c.s p) (c.s + w')).getD 0)]) nu
        have hu : Is (upd F1 u (.tup [.int r', .int ((look (put c.l c.s p) (c.s + w')).getD 0)])) (.ref u) (lkOf ⟨r', c.s + w', put c.l c.s p⟩) := ⟨u, _, _, rfl, upd_same, rfl, rfl⟩
        have gb7 : GoAt t.C_Goer _ y d m r' (c.s + w') (put c.l c.s p) (j + 1) := ⟨⟨dx6, ln (u := .tup [.int r', .int ((look (put c.l c.s p) (c.s + w')).getD 0)]) nu ho6⟩, ln nu hdc6⟩
        have fy7 : (upd F1 u (.tup [.int r', .int ((look (put c.l c.s p) (c.s + w')).getD 0)])) y = none := by rw [upd_ne (ne_of_none ho6 nu)]; exact fy
        have fd7 : (upd F1 u (.tup [.int r', .int ((look (put c.l c.s p) (c.s + w')).getD 0)])) d = none := by rw [upd_ne (ne_of_none hdc6 nu)]; exact fd
        have al7 := al.up s7
        have s27 : Same F2 (upd F1 u (.tup [.int r', .int ((look (put c.l c.s p) (c.s + w')).getD 0)])) := fun c o h => s7 _ _ (s2 _ _ h)
        generalize upd F1 u (.tup [.int r', .int ((look (put c.l c.s p) (c.s + w')).getD 0)]) = F8 at g7 w7 hu fy7 fd7 al7 s27
        generalize upd H6 u (.tup [.int r', .int ((look (put c.l c.s p) (c.s + w')).getD 0)]) = H8 at g7 w7 gb7
        refine ⟨_, rfl, _, rfl, notin_dat (d := lkOf ⟨r', c.s + w', put c.l c.s p⟩) (ds := met cs) (hu.up g7.fh) ⟨D, xs, rfl, w7.h, al7.up g7.fh⟩ ⟨_, rfl, ?_⟩⟩
        have ha := met_app cs ⟨r', c.s + w', put c.l c.s p⟩
        refine ite2 (fun ci => ?_) (fun ci => ?_)
        · have ci : lkOf ⟨r', c.s + w', put c.l c.s p⟩ ∉ met cs := fun z => by rw [decide_eq_true z] at ci; cases ci
          unfold met1 at ha
          rw [if_neg ci] at ha
          refine ⟨_, rfl, .inl ⟨rfl, _, SqL.of w7.h⟩, _, rfl, D, _, _, rfl, rfl, w7.h, lt_size (by omega), ?_⟩
          refine ⟨n - (j + 1), by omega, F8, j + 1, ⟨r', c.s + w', put c.l c.s p⟩, _, cs ++ [⟨r', c.s + w', put c.l c.s p⟩], _, rfl, rfl, g7.set w7.f (.inl w7.n), fy7, fd7, s27, ⟨?_, (upd_ne dD.symm).trans gb7.2⟩, st2, by omega, hh.app st2, w7.set, ?_⟩
          · obtain ⟨dx7, ho7⟩ := gb7.1
            exact ⟨dx7, (upd_ne yD.symm).trans ho7⟩
          · rw [ha]
            exact al7.app (All2.one hu)
        · have ci : lkOf ⟨r', c.s + w', put c.l c.s p⟩ ∈ met cs := by
            by_cases z : lkOf ⟨r', c.s + w', put c.l c.s p⟩ ∈ met cs
            · exact z
            · rw [decide_eq_false z] at ci; exact absurd rfl ci
          unfold met1 at ha
          rw [if_pos ci] at ha
          exact ⟨n - (j + 1), by omega, F8, j + 1, ⟨r', c.s + w', put c.l c.s p⟩, xs, cs ++ [⟨r', c.s + w', put c.l c.s p⟩], _, rfl, rfl, g7, fy7, fd7, s27, gb7, st2, by omega, hh.app st2, w7, by rw [ha]; exact al7⟩
    · have cl : ¬ (j : Int) < n := fun z => cl (decide_eq_true z)
      exact ifF rfl ⟨_, rfl, q F1 G D xs cs j c g ⟨lj, st, .inr (by omega)⟩ hh w al⟩

def sp_visits : Sp := fun vs H Q _ => ∃ (F : Hp) (m : V) (M : Mach) (R S n : Nat), vs = [m, .int n] ∧ Same F H ∧ Is F m M ∧ MOk M R S ∧ n ≤ 5000 ∧
  ∀ (F' H' : Hp) (D : Addr) (xs : List V) (cs : List Cfg) (k : Nat) (c : Cfg), Gr mu0 F H F' H' → Gone M n k c → Hist M k cs → Ow H F' H' D (.lst xs) → IsAll F' xs (srt (cnt cs)) → Q (.ref D) H'
theorem ok_visits (t : Tx K mg) : FnOk P w K mg base CX0 4 t.a_visits t.fd_visits ["machine", "most"] sp_visits := by
  refine t.F_visits.ok sc_visits (fun vs H Q E h => ?_) (fun cdv A outer s H vs Q E hr h => ?_)
  · obtain ⟨F, m, M, R, S, n, rfl, _⟩ := h
    rfl
  · obtain ⟨F, m, M, R, S, n, rfl, sF, hm, hM, hn, q⟩ := h
    refine ⟨_, (pss_cons (ps_expr (pe_call (ok_must_machine t) (hr.mono (by decide)) (by rfl) t.m_must_machine t.F_must_machine.kp t.b_must_machine .nil pass0 (pa_cons (pv 0) pa_nil)))
      (pss_cons (ps_set (i := 2) sc_visits.nd rfl (by first | exact Or.inl rfl | exact Or.inr rfl) (pe_make t.M_Goer (ok_Goer_init t) (hr.mono (by decide)) (by rfl) t.m_Goer t.b_Goer_init .nil pass0 (pa_cons (pv 0) (pa_cons (pe_tup (pa_cons pe_int (pa_cons pe_int (pa_cons (pe_lst pa_nil) pa_nil)))) pa_nil))))
      (pss_cons (ps_set (i := 3) sc_visits.nd rfl (by first | exact Or.inl rfl | exact Or.inr rfl) (pe_disp (pps_cons pe_int pe_int pps_nil) (by rfl) (by rfl) (fun z => by cases z) (by decide)))
      (pss_cons (ps_while PassesOwn.never (PW.pt (pw_and (pt_cmpR op_lt (pe_fld (pv 2) rfl) (pv 1) (nomark _)) (pw_and1 (pt_val (pe_meth0 (pv 2) t.cl_Goer t.M_Goer_step (ok_Goer_step t) (hr.mono (by decide)) t.b_Goer_step .nil pass0))))) (pss_one (ps_dput (hu_of hr) (pv 3) (pe_fld (pv 2) rfl) (pe_op op_add (pe_dget2 (hu_of hr) (pv 3) (pe_fld (pv 2) rfl) pe_int ⟨by rfl, by rfl, by rfl, by rfl⟩) pe_int) rfl)))
      (pss_one (ps_ret (pe_sortedItems rfl (pv 3) (by rfl) t.n_sorted (by decide +kernel)))))))), ?_⟩
    refine ⟨_, rfl, F, m, M, R, S, rfl, sF, hm, hM, fun Ha ga0 => ?_⟩
    refine ⟨_, rfl, nil_le, fun l nl => ⟨three_le, fun u nu => ?_⟩⟩
    have g1 := ga0.new (o := .lst []) nl
    have g2 := g1.new (o := .tup [.int 0, .int 0, .ref l]) nu
    have hx : Is (upd (upd F l (.lst [])) u (.tup [.int 0, .int 0, .ref l])) (.ref u) (⟨0, 0, []⟩ : Setup) := ⟨u, _, _, _, rfl, upd_same, rfl, rfl, l, [], rfl, ln (g1.fh.free nu) upd_same, All2.nil⟩
    generalize upd (upd F l (.lst [])) u (.tup [.int 0, .int 0, .ref l]) = F2 at g2 hx
    generalize upd (upd Ha l (.lst [])) u (.tup [.int 0, .int 0, .ref l]) = H2 at g2
    refine fun y dy ny ndy ney => ?_
    have g3 := g2.own (o := .own y) ndy
    have ny2 : (upd H2 dy (.own y)) y = none := by rw [upd_ne ney.symm]; exact ny
    have g4 := g3.own (o := .ins t.C_Goer dy []) ny2
    have hy : H y = none := g2.th _ ny
    have fy : F2 y = none := g2.fh.free ny
    refine ⟨F2, y, dy, m, .ref u, _, rfl, upd_same, fy, g4.fh, hx, fun d H5 nd5 g5 ga => ⟨rfl, ?_⟩⟩
    have g6 := g4.thn g5 fun c z => .inr (by rw [show c = y from z]; exact hy)
    have hd : H d = none := g4.th _ nd5
    have fd : F2 d = none := g4.fh.free nd5
    have hm2 := hm.up g2.ff
    -- found = {0: 1}
    refine fun D nD => ⟨upd_same, [(Sum.inl 0, .int 1)], rfl, by decide, ?_⟩
    rw [upd_upd, show mergeK [] [((Sum.inl 0 : Key), V.int 1)] = dI (cnt [c0]) from rfl]
    have g7 := g6.own (o := .dK (dI (cnt [c0]))) nD
    have w7 : Ow H F2 (upd H5 D (.dK (dI (cnt [c0])))) D (.dK (dI (cnt [c0]))) := Ow.mk1 g6 nD
    obtain ⟨⟨dx0, ho0⟩, hdc0⟩ := id ga
    have dD : D ≠ d := (ne_of_none hdc0 nD).symm
    have ga7 : GoAt t.C_Goer _ y d m 0 0 [] 0 := ⟨⟨dx0, ln (u := .dK (dI (cnt [c0]))) nD ho0⟩, ln nD hdc0⟩
    refine ⟨fun k σ G => ∃ (j : Nat) (c : Cfg) (cs : List Cfg), k = n - j ∧ σ = [some m, some (.int n), some (.ref y), some (.ref D)] ∧ Gr mu0 F H F2 G ∧ GoAt t.C_Goer G y d m c.r c.s c.l j ∧ stepsC M j = some c ∧ j ≤ n ∧ Hist M j cs ∧ Ow H F2 G D (.dK (dI (cnt cs))),
      ⟨_, 0, c0, [c0], rfl, rfl, g7, ga7, rfl, Nat.zero_le _, Hist.one, w7⟩, ?_⟩
    rintro k σ G ⟨j, c, cs, rfl, rfl, g, ga, st, lj, hh, w⟩
    obtain ⟨ok, ll⟩ := stepsC_ok hM st
    obtain ⟨row, er, s0, ee, eo⟩ := ok.ent hM
    obtain ⟨⟨dx, ho⟩, hdc⟩ := id ga
    have yD : D ≠ y := ne_of w.h ho (by intro z; cases z)
    obtain ⟨cn, cl', ck⟩ := cnt_facts cs
    have lcs := hh.1
    have fin : ∀ G1, Gr mu0 F2 G F2 G1 → D ≠ d → (stepC M c = none ∨ j = n) → rSortIt (.ref D) G1 Q := fun G1 g1 dD e => by
      have w1 := w.call g1 fun z => z
      have g2 := g.trans g1
      refine sitems g2.fh w1.h fun F3 H3 p xs g3 w3 al => ?_
      exact q F3 H3 p xs cs j c (g2.trans g3) ⟨lj, st, e⟩ hh ⟨g2.th _ w3.n, w3.f, w3.h⟩ al
    refine ⟨_, rfl, y, t.C_Goer, dx, _, _, rfl, ho, t.cl_Goer, t.nA_Goer_steps, Goer_get_steps, _, rfl, _, _, rfl, rfl, _, rfl, ?_⟩
    refine ite2 (fun cl => ?_) (fun cl => ?_)
    · have cl : (j : Int) < n := of_decide_eq_true cl
      refine ⟨_, rfl, y, dx, _, rfl, ho, Goer_no (by decide +kernel) (by decide +kernel) (by decide +kernel) (by decide +kernel) (by decide +kernel), F2, y, d, m, M, c.r, c.s, c.l, j, row, entOf M c, rfl, g.fh, fy, fd, hm2, ga, ok.r0, er, s0, ee, by omega, fun he H6 g6 => ⟨_, rfl, iteF ?_⟩, fun p w' r' he H6 g6 gb => ⟨_, rfl, iteT ?_⟩⟩
      · exact ⟨_, rfl, fin H6 g6 dD (.inl (stepC_none.mpr he))⟩
      · refine ⟨_, fun _ _ h => h, ?_⟩
        have st1 := stepC_go he
        have st2 := (stepsC_next st).trans st1
        have g16 := g.thn g6 (fun c z => .inr (by rcases z with rfl | rfl <;> assumption))
        obtain ⟨⟨dx6, ho6⟩, hdc6⟩ := id gb
        have w6 := w.call g6 (fun z => by rcases z with z | z; exact yD z; exact dD z)
        -- found[goer.spot] = found.get(goer.spot, 0) + 1
        refine ⟨_, rfl, D, rfl, .inl ⟨_, .inl w6.h⟩, _, rfl, y, t.C_Goer, dx6, _, _, rfl, ho6, t.cl_Goer, t.nA_Goer_spot, Goer_get_spot, _, DGet.k (k := Sum.inl (c.s + w')) w6.h, ?_⟩
        rw [dI_val, getD_int]
        refine ⟨_, _, rfl, rfl, _, rfl, _, rfl, y, t.C_Goer, dx6, _, _, rfl, ho6, t.cl_Goer, t.nA_Goer_spot, Goer_get_spot, D, _, rfl, DPut.k (k := Sum.inl (c.s + w')) w6.h (size_dI (n := 6000) (by omega) (by decide)), ?_⟩
        rw [dI_put]
        have e : put (cnt cs) (c.s + w') ((look (cnt cs) (c.s + w')).getD 0 + 1) = cnt (cs ++ [⟨r', c.s + w', put c.l c.s p⟩]) := (cnt_app cs ⟨r', c.s + w', put c.l c.s p⟩).symm
        rw [e]
        refine ⟨n - (j + 1), by omega, j + 1, ⟨r', c.s + w', put c.l c.s p⟩, cs ++ [⟨r', c.s + w', put c.l c.s p⟩], rfl, rfl, g16.set w6.f (.inl w6.n), ⟨⟨dx6, (upd_ne yD.symm).trans ho6⟩, (upd_ne dD.symm).trans hdc6⟩, st2, by omega, hh.app st2, w6.set⟩
    · have cl : ¬ (j : Int) < n := fun z => cl (decide_eq_true z)
      exact ifF rfl ⟨_, rfl, fin G (Gr.refl g.fh) dD (.inr (by omega))⟩

def sp_records : Sp := fun vs H Q _ => ∃ (F : Hp) (m : V) (M : Mach) (R S n : Nat), vs = [m, .int n] ∧ Same F H ∧ Is F m M ∧ MOk M R S ∧ n ≤ 5000 ∧
  ∀ (F' H' : Hp) (D : Addr) (xs : List V) (cs : List Cfg) (k : Nat) (c : Cfg), Gr mu0 F H F' H' → Gone M n k c → Hist M k cs → Ow H F' H' D (.lst xs) → IsAll F' xs (recs cs) → Q (.ref D) H'
theorem ok_records (t : Tx K mg) : FnOk P w K mg base CX0 4 t.a_records t.fd_records ["machine", "most"] sp_records := by
  refine t.F_records.ok sc_records (fun vs H Q E h => ?_) (fun cdv A outer s H vs Q E hr h => ?_)
  · obtain ⟨F, m, M, R, S, n, rfl, _⟩ := h
    rfl
  · obtain ⟨F, m, M, R, S, n, rfl, sF, hm, hM, hn, q⟩ := h
    refine ⟨_, (pss_cons (ps_expr (pe_call (ok_must_machine t) (hr.mono (by decide)) (by rfl) t.m_must_machine t.F_must_machine.kp t.b_must_machine .nil pass0 (pa_cons (pv 0) pa_nil)))
      (pss_cons (ps_set (i := 2) sc_records.nd rfl (by first | exact Or.inl rfl | exact Or.inr rfl) (pe_make t.M_Goer (ok_Goer_init t) (hr.mono (by decide)) (by rfl) t.m_Goer t.b_Goer_init .nil pass0 (pa_cons (pv 0) (pa_cons (pe_tup (pa_cons pe_int (pa_cons pe_int (pa_cons (pe_lst pa_nil) pa_nil)))) pa_nil))))
      (pss_cons (ps_set (i := 3) sc_records.nd rfl (by first | exact Or.inl rfl | exact Or.inr rfl) pe_int)
      (pss_cons (ps_set (i := 4) sc_records.nd rfl (by first | exact Or.inl rfl | exact Or.inr rfl) pe_int)
      (pss_cons (ps_set (i := 5) sc_records.nd rfl (by first | exact Or.inl rfl | exact Or.inr rfl) (pe_lst (pa_cons (pe_tup (pa_cons pe_int (pa_cons pe_int pa_nil))) pa_nil)))
      (pss_cons (ps_while PassesOwn.never (PW.pt (pw_and (pt_cmpR op_lt (pe_fld (pv 2) rfl) (pv 1) (nomark _)) (pw_and1 (pt_val (pe_meth0 (pv 2) t.cl_Goer t.M_Goer_step (ok_Goer_step t) (hr.mono (by decide)) t.b_Goer_step .nil pass0))))) (pss_one (ps_if (pt_not (pt_chain op_le op_le (pv 3) (pe_fld (pv 2) rfl) (pv 4))) (pss_cons (ps_expr (pe_bm PySem.F.plainAttrs_list PySem.F.slot_list_append PySem.F.type_list_append mt_append (pv 5) (pa_cons (pe_tup (pa_cons (pe_fld (pv 2) rfl) (pa_cons (pe_fld (pv 2) rfl) pa_nil))) pa_nil)))
      (pss_cons (ps_set (i := 3) sc_records.nd rfl (by first | exact Or.inl rfl | exact Or.inr rfl) (pe_callB (id := "min") (call_min2 rfl) (by rfl) t.n_min (by decide +kernel) (pa_cons (pv 3) (pa_cons (pe_fld (pv 2) rfl) pa_nil))))
      (pss_one (ps_set (i := 4) sc_records.nd rfl (by first | exact Or.inl rfl | exact Or.inr rfl) (pe_callB (id := "max") (call_max2 rfl) (by rfl) t.n_max (by decide +kernel) (pa_cons (pv 4) (pa_cons (pe_fld (pv 2) rfl) pa_nil))))))) pss_nil)))
      (pss_one (ps_ret (pv 5))))))))), ?_⟩
    refine ⟨_, rfl, F, m, M, R, S, rfl, sF, hm, hM, fun Ha ga0 => ?_⟩
    refine ⟨_, rfl, nil_le, fun l nl => ⟨three_le, fun u nu => ?_⟩⟩
    have g1 := ga0.new (o := .lst []) nl
    have g2 := g1.new (o := .tup [.int 0, .int 0, .ref l]) nu
    have hx : Is (upd (upd F l (.lst [])) u (.tup [.int 0, .int 0, .ref l])) (.ref u) (⟨0, 0, []⟩ : Setup) := ⟨u, _, _, _, rfl, upd_same, rfl, rfl, l, [], rfl, ln (g1.fh.free nu) upd_same, All2.nil⟩
    generalize upd (upd F l (.lst [])) u (.tup [.int 0, .int 0, .ref l]) = F2 at g2 hx
    generalize upd (upd Ha l (.lst [])) u (.tup [.int 0, .int 0, .ref l]) = H2 at g2
    refine fun y dy ny ndy ney => ?_
    have g3 := g2.own (o := .own y) ndy
    have ny2 : (upd H2 dy (.own y)) y = none := by rw [upd_ne ney.symm]; exact ny
    have g4 := g3.own (o := .ins t.C_Goer dy []) ny2
    have hy : H y = none := g2.th _ ny
    have fy : F2 y = none := g2.fh.free ny
    refine ⟨F2, y, dy, m, .ref u, _, rfl, upd_same, fy, g4.fh, hx, fun d H5 nd5 g5 ga => ⟨rfl, ?_⟩⟩
    have g6 := g4.thn g5 fun c z => .inr (by rw [show c = y from z]; exact hy)
    have hd : H d = none := g4.th _ nd5
    have fd : F2 d = none := g4.fh.free nd5
    have hm2 := hm.up g2.ff
    -- found = [(0, 0)]
    refine ⟨two_le, fun t0 nt0 => ⟨one_le, fun D nD => ?_⟩⟩
    have g7 := g6.new (o := .tup [.int 0, .int 0]) nt0
    have ht0 : (upd F2 t0 (.tup [.int 0, .int 0])) t0 = some (.tup [.int 0, .int 0]) := upd_same
    have s27 : Same F2 (upd F2 t0 (.tup [.int 0, .int 0])) := sm_new (Same.refl F2) (g6.fh.free nt0)
    obtain ⟨⟨dx0, ho0⟩, hdc0⟩ := id ga
    have fy7 : (upd F2 t0 (.tup [.int 0, .int 0])) y = none := by rw [upd_ne (ne_of_none ho0 nt0)]; exact fy
    have fd7 : (upd F2 t0 (.tup [.int 0, .int 0])) d = none := by rw [upd_ne (ne_of_none hdc0 nt0)]; exact fd
    have ga7 : GoAt t.C_Goer _ y d m 0 0 [] 0 := ⟨⟨dx0, ln nD (ln (u := .tup [.int 0, .int 0]) nt0 ho0)⟩, ln (u := .lst [.ref t0]) nD (ln nt0 hdc0)⟩
    have g8 := g7.own (o := .lst [.ref t0]) nD
    have w8 : Ow H _ (upd _ D (.lst [.ref t0])) D (.lst [.ref t0]) := Ow.mk1 g7 nD
    generalize upd F2 t0 (.tup [.int 0, .int 0]) = F7 at g8 w8 ht0 s27 fy7 fd7
    refine ⟨fun k σ G => ∃ (F1 : Hp) (j : Nat) (c : Cfg) (xs : List V) (cs : List Cfg) (lo hi : Int), k = n - j ∧ σ = [some m, some (.int n), some (.ref y), some (.int lo), some (.int hi), some (.ref D)] ∧ Gr mu0 F H F1 G ∧ F1 y = none ∧ F1 d = none ∧ Same F2 F1 ∧ GoAt t.C_Goer G y d m c.r c.s c.l j ∧ stepsC M j = some c ∧ j ≤ n ∧ Hist M j cs ∧ Ow H F1 G D (.lst xs) ∧ IsAll F1 xs (recs cs) ∧ IsLo cs lo ∧ IsHi cs hi,
      ⟨_, F7, 0, c0, _, [c0], 0, 0, rfl, rfl, g8, fy7, fd7, s27, ga7, rfl, Nat.zero_le _, Hist.one, w8, All2.one ⟨t0, _, _, rfl, ht0, rfl, rfl⟩, IsLo.one, IsHi.one⟩, ?_⟩
    rintro k σ G ⟨F1, j, c, xs, cs, lo, hi, rfl, rfl, g, fy, fd, s2, ga, st, lj, hh, w, al, il, ih⟩
    obtain ⟨ok, ll⟩ := stepsC_ok hM st
    obtain ⟨row, er, s0, ee, eo⟩ := ok.ent hM
    obtain ⟨⟨dx, ho⟩, hdc⟩ := id ga
    have hm1 := hm2.up s2
    have yD : D ≠ y := ne_of w.h ho (by intro z; cases z)
    have dD : D ≠ d := ne_of w.h hdc (by intro z; cases z)
    have lcs := hh.1
    have lxs : xs.length ≤ j + 1 := by rw [al.1, ← lcs]; exact recs_len cs
    refine ⟨_, rfl, y, t.C_Goer, dx, _, _, rfl, ho, t.cl_Goer, t.nA_Goer_steps, Goer_get_steps, _, rfl, _, _, rfl, rfl, _, rfl, ?_⟩
    refine ite2 (fun cl => ?_) (fun cl => ?_)
    · have cl : (j : Int) < n := of_decide_eq_true cl
      refine ⟨_, rfl, y, dx, _, rfl, ho, Goer_no (by decide +kernel) (by decide +kernel) (by decide +kernel) (by decide +kernel) (by decide +kernel), F1, y, d, m, M, c.r, c.s, c.l, j, row, entOf M c, rfl, g.fh, fy, fd, hm1, ga, ok.r0, er, s0, ee, by omega, fun he H6 g6 => ⟨_, rfl, iteF ?_⟩, fun p w' r' he H6 g6 gb => ⟨_, rfl, iteT ?_⟩⟩
      · exact ⟨_, rfl, q F1 H6 D xs cs j c (g.trans g6) ⟨lj, st, .inl (stepC_none.mpr he)⟩ hh (w.call g6 fun z => z) al⟩
      · refine ⟨_, fun _ _ h => h, ?_⟩
        have st1 := stepC_go he
        have st2 := (stepsC_next st).trans st1
        have g16 := g.thn g6 (fun c z => .inr (by rcases z with rfl | rfl <;> assumption))
        obtain ⟨⟨dx6, ho6⟩, hdc6⟩ := id gb
        have w6 := w.call g6 (fun z => by rcases z with z | z; exact yD z; exact dD z)
        have ha := recs_app cs ⟨r', c.s + w', put c.l c.s p⟩
        have fi := fresh_iff (c := ⟨r', c.s + w', put c.l c.s p⟩) il ih
        have fi : fresh cs ⟨r', c.s + w', put c.l c.s p⟩ = true ↔ (c.s + w' < lo ∨ hi < c.s + w') := fi
        -- what comes where the place is no new one
        have stay : ¬ (c.s + w' < lo ∨ hi < c.s + w') → recs (cs ++ [⟨r', c.s + w', put c.l c.s p⟩]) = recs cs ∧ IsLo (cs ++ [⟨r', c.s + w', put c.l c.s p⟩]) lo ∧ IsHi (cs ++ [⟨r', c.s + w', put c.l c.s p⟩]) hi := fun z => by
          have h1 := il.app ⟨r', c.s + w', put c.l c.s p⟩
          have h2 := ih.app ⟨r', c.s + w', put c.l c.s p⟩
          rw [if_neg (show ¬ c.s + w' < lo by omega)] at h1
          rw [if_neg (show ¬ c.s + w' > hi by omega)] at h2
          exact ⟨by rw [ha, if_neg (fun k => z (fi.mp k))], h1, h2⟩
        have come : (c.s + w' < lo ∨ hi < c.s + w') → recs (cs ++ [⟨r', c.s + w', put c.l c.s p⟩]) = recs cs ++ [⟨j + 1, c.s + w'⟩] := fun z => by
          rw [ha, if_pos (fi.mpr z), lcs]; rfl
        -- if not least <= goer.spot <= greatest
        refine ⟨_, rfl, _, rfl, y, t.C_Goer, dx6, _, _, rfl, ho6, t.cl_Goer, t.nA_Goer_spot, Goer_get_spot, _, _, rfl, rfl, _, rfl, ite2 (fun c1 => ?A) (fun c1 => ?B)⟩
        case' A =>
          have c1 : lo ≤ c.s + w' := of_decide_eq_true c1
          refine ⟨_, rfl, _, _, rfl, rfl, _, rfl, ite2 (fun c2 => ?C) (fun c2 => ?D)⟩
        case' C =>
          have isnew : c.s + w' < lo ∨ hi < c.s + w' := by
            by_cases z : c.s + w' ≤ hi
            · rw [decide_eq_true z] at c2; cases c2
            · omega
        case' B =>
          have isnew : c.s + w' < lo ∨ hi < c.s + w' := .inl (by
            by_cases z : lo ≤ c.s + w'
            · exact absurd (decide_eq_true z) c1
            · omega)
          refine ⟨_, rfl, ifT rfl ?_⟩
        case' D =>
          have c2 : c.s + w' ≤ hi := by
            by_cases z : c.s + w' ≤ hi
            · exact z
            · exact absurd (by rw [decide_eq_false z]; rfl) c2
          obtain ⟨e1, il2, ih2⟩ := stay (by omega)
          exact ⟨n - (j + 1), by omega, F1, j + 1, ⟨r', c.s + w', put c.l c.s p⟩, xs, cs ++ [⟨r', c.s + w', put c.l c.s p⟩], lo, hi, rfl, rfl, g16, fy, fd, s2, gb, st2, by omega, hh.app st2, w6, by rw [e1]; exact al, il2, ih2⟩
        all_goals
          refine ⟨_, rfl, .inl ⟨rfl, _, SqL.of w6.h⟩, _, rfl, y, t.C_Goer, dx6, _, _, rfl, ho6, t.cl_Goer, t.nA_Goer_steps, Goer_get_steps, _, rfl, y, t.C_Goer, dx6, _, _, rfl, ho6, t.cl_Goer, t.nA_Goer_spot, Goer_get_spot, two_le, fun u nu => ?_⟩
          have g7 := g16.new (o := .tup [.int ((j + 1 : Nat) : Int), .int (c.s + w')]) nu
          have s7 : Same F1 (upd F1 u (.tup [.int ((j + 1 : Nat) : Int), .int (c.s + w')])) := sm_new (Same.refl F1) (g16.fh.free nu)
          have w7 := w6.new (u := .tup [.int ((j + 1 : Nat) : Int), .int (c.s + w')]) nu
          have hu : Is (upd F1 u (.tup [.int ((j + 1 : Nat) : Int), .int (c.s + w')])) (.ref u) (⟨((j + 1 : Nat) : Int), c.s + w'⟩ : PI) := ⟨u, _, _, rfl, upd_same, rfl, rfl⟩
          have fy7 : (upd F1 u (.tup [.int ((j + 1 : Nat) : Int), .int (c.s + w')])) y = none := by rw [upd_ne (ne_of_none ho6 nu)]; exact fy
          have fd7 : (upd F1 u (.tup [.int ((j + 1 : Nat) : Int), .int (c.s + w')])) d = none := by rw [upd_ne (ne_of_none hdc6 nu)]; exact fd
          have ho7 := ln (u := .tup [.int ((j + 1 : Nat) : Int), .int (c.s + w')]) nu ho6
          have hdc7 := ln (u := .tup [.int ((j + 1 : Nat) : Int), .int (c.s + w')]) nu hdc6
          refine ⟨D, _, _, rfl, rfl, w7.h, lt_size (by omega), ?_⟩
          have ho8 := (upd_ne (o := .lst (xs ++ [.ref u])) yD.symm).trans ho7
          have hdc8 := (upd_ne (o := .lst (xs ++ [.ref u])) dD.symm).trans hdc7
          have g8 := g7.set (o := .lst (xs ++ [.ref u])) w7.f (.inl w7.n)
          have w8 := w7.set (u := .lst (xs ++ [.ref u]))
          refine ⟨_, rfl, _, rfl, y, t.C_Goer, dx6, _, _, rfl, ho8, t.cl_Goer, t.nA_Goer_spot, Goer_get_spot, _, _, rfl, ?_⟩
          refine ⟨_, rfl, _, rfl, y, t.C_Goer, dx6, _, _, rfl, ho8, t.cl_Goer, t.nA_Goer_spot, Goer_get_spot, _, _, rfl, ?_⟩
          have e1 := come isnew
          exact ⟨n - (j + 1), by omega, _, j + 1, ⟨r', c.s + w', put c.l c.s p⟩, _, cs ++ [⟨r', c.s + w', put c.l c.s p⟩], _, _, rfl, rfl, g8, fy7, fd7, fun c o h => s7 _ _ (s2 _ _ h), ⟨⟨dx6, ho8⟩, hdc8⟩, st2, by omega, hh.app st2, w8, by rw [e1]; exact (al.up s7).app (All2.one hu), il.app _, ih.app _⟩
    · have cl : ¬ (j : Int) < n := fun z => cl (decide_eq_true z)
      exact ifF rfl ⟨_, rfl, q F1 G D xs cs j c g ⟨lj, st, .inr (by omega)⟩ hh w al⟩
def sp_touched : Sp := fun vs H Q _ => ∃ (F : Hp) (m : V) (M : Mach) (R S n : Nat), vs = [m, .int n] ∧ Same F H ∧ Is F m M ∧ MOk M R S ∧ n ≤ 5000 ∧
  ∀ (F' H' : Hp) (u : Addr) (lo hi : Int) (cs : List Cfg) (k : Nat) (c : Cfg), Gr mu0 F H F' H' → Gone M n k c → Hist M k cs → IsLo cs lo → IsHi cs hi → Is F' (.ref u) (⟨lo, hi⟩ : PI) → Q (.ref u) H'
theorem ok_touched (t : Tx K mg) : FnOk P w K mg base CX0 4 t.a_touched t.fd_touched ["machine", "most"] sp_touched := by
  refine t.F_touched.ok sc_touched (fun vs H Q E h => ?_) (fun cdv A outer s H vs Q E hr h => ?_)
  · obtain ⟨F, m, M, R, S, n, rfl, _⟩ := h
    rfl
  · obtain ⟨F, m, M, R, S, n, rfl, sF, hm, hM, hn, q⟩ := h
    refine ⟨_, (pss_cons (ps_expr (pe_call (ok_must_machine t) (hr.mono (by decide)) (by rfl) t.m_must_machine t.F_must_machine.kp t.b_must_machine .nil pass0 (pa_cons (pv 0) pa_nil)))
      (pss_cons (ps_set (i := 2) sc_touched.nd rfl (by first | exact Or.inl rfl | exact Or.inr rfl) (pe_make t.M_Goer (ok_Goer_init t) (hr.mono (by decide)) (by rfl) t.m_Goer t.b_Goer_init .nil pass0 (pa_cons (pv 0) (pa_cons (pe_tup (pa_cons pe_int (pa_cons pe_int (pa_cons (pe_lst pa_nil) pa_nil)))) pa_nil))))
      (pss_cons (ps_set (i := 3) sc_touched.nd rfl (by first | exact Or.inl rfl | exact Or.inr rfl) pe_int)
      (pss_cons (ps_set (i := 4) sc_touched.nd rfl (by first | exact Or.inl rfl | exact Or.inr rfl) pe_int)
      (pss_cons (ps_while PassesOwn.never (PW.pt (pw_and (pt_cmpR op_lt (pe_fld (pv 2) rfl) (pv 1) (nomark _)) (pw_and1 (pt_val (pe_meth0 (pv 2) t.cl_Goer t.M_Goer_step (ok_Goer_step t) (hr.mono (by decide)) t.b_Goer_step .nil pass0))))) (pss_cons (ps_set (i := 3) sc_touched.nd rfl (by first | exact Or.inl rfl | exact Or.inr rfl) (pe_callB (id := "min") (call_min2 rfl) (by rfl) t.n_min (by decide +kernel) (pa_cons (pv 3) (pa_cons (pe_fld (pv 2) rfl) pa_nil))))
      (pss_one (ps_set (i := 4) sc_touched.nd rfl (by first | exact Or.inl rfl | exact Or.inr rfl) (pe_callB (id := "max") (call_max2 rfl) (by rfl) t.n_max (by decide +kernel) (pa_cons (pv 4) (pa_cons (pe_fld (pv 2) rfl) pa_nil)))))))
      (pss_one (ps_ret (pe_tup (pa_cons (pv 3) (pa_cons (pv 4) pa_nil)))))))))), ?_⟩
    refine ⟨_, rfl, F, m, M, R, S, rfl, sF, hm, hM, fun Ha ga0 => ?_⟩
    -- walk = Goer(machine, (0, 0, []))
    refine ⟨_, rfl, nil_le, fun l nl => ⟨three_le, fun u nu => ?_⟩⟩
    have g1 := ga0.new (o := .lst []) nl
    have g2 := g1.new (o := .tup [.int 0, .int 0, .ref l]) nu
    have hx : Is (upd (upd F l (.lst [])) u (.tup [.int 0, .int 0, .ref l])) (.ref u) (⟨0, 0, []⟩ : Setup) := ⟨u, _, _, _, rfl, upd_same, rfl, rfl, l, [], rfl, ln (g1.fh.free nu) upd_same, All2.nil⟩
    generalize upd (upd F l (.lst [])) u (.tup [.int 0, .int 0, .ref l]) = F2 at g2 hx
    generalize upd (upd Ha l (.lst [])) u (.tup [.int 0, .int 0, .ref l]) = H2 at g2
    refine fun y dy ny ndy ney => ?_
    have g3 := g2.own (o := .own y) ndy
    have ny2 : (upd H2 dy (.own y)) y = none := by rw [upd_ne ney.symm]; exact ny
    have g4 := g3.own (o := .ins t.C_Goer dy []) ny2
    have hy : H y = none := g2.th _ ny
    have fy : F2 y = none := g2.fh.free ny
    refine ⟨F2, y, dy, m, .ref u, _, rfl, upd_same, fy, g4.fh, hx, fun d H5 nd5 g5 ga => ⟨rfl, ?_⟩⟩
    have g6 := g4.thn g5 fun c z => .inr (by rw [show c = y from z]; exact hy)
    have hd : H d = none := g4.th _ nd5
    have fd : F2 d = none := g4.fh.free nd5
    have hm2 := hm.up g2.ff
    refine ⟨fun k σ G => ∃ (j : Nat) (c : Cfg) (lo hi : Int) (cs : List Cfg), k = n - j ∧ σ = [some m, some (.int n), some (.ref y), some (.int lo), some (.int hi)] ∧ Gr mu0 F H F2 G ∧ GoAt t.C_Goer G y d m c.r c.s c.l j ∧ stepsC M j = some c ∧ j ≤ n ∧ Hist M j cs ∧ IsLo cs lo ∧ IsHi cs hi,
      ⟨_, 0, c0, 0, 0, _, rfl, rfl, g6, ga, rfl, Nat.zero_le _, Hist.one, IsLo.one, IsHi.one⟩, ?_⟩
    rintro k σ G ⟨j, c, lo, hi, cs, rfl, rfl, g, ga, st, lj, hh, il, ih⟩
    obtain ⟨ok, ll⟩ := stepsC_ok hM st
    obtain ⟨row, er, s0, ee, eo⟩ := ok.ent hM
    obtain ⟨⟨dx, ho⟩, hdc⟩ := id ga
    have fin : ∀ G1, Gr mu0 F H F2 G1 → (stepC M c = none ∨ j = n) → ∀ v, G1 v = none → Q (.ref v) (upd G1 v (.tup [.int lo, .int hi])) := fun G1 g1 e v nv =>
      q _ _ v lo hi cs j c (g1.new nv) ⟨lj, st, e⟩ hh il ih ⟨v, _, _, rfl, upd_same, rfl, rfl⟩
    refine ⟨_, rfl, y, t.C_Goer, dx, _, _, rfl, ho, t.cl_Goer, t.nA_Goer_steps, Goer_get_steps, _, rfl, _, _, rfl, rfl, _, rfl, ?_⟩
    refine ite2 (fun cl => ?_) (fun cl => ?_)
    · have cl : (j : Int) < n := of_decide_eq_true cl
      refine ⟨_, rfl, y, dx, _, rfl, ho, Goer_no (by decide +kernel) (by decide +kernel) (by decide +kernel) (by decide +kernel) (by decide +kernel), F2, y, d, m, M, c.r, c.s, c.l, j, row, entOf M c, rfl, g.fh, fy, fd, hm2, ga, ok.r0, er, s0, ee, by omega, fun he H6 g6 => ⟨_, rfl, iteF ?_⟩, fun p w r' he H6 g6 gb => ⟨_, rfl, iteT ?_⟩⟩
      · exact ⟨_, rfl, _, rfl, two_le, fin H6 (g.trans g6) (.inl (stepC_none.mpr he))⟩
      · refine ⟨_, fun _ _ h => h, ?_⟩
        have st1 := stepC_go he
        have st2 := (stepsC_next st).trans st1
        have g16 := g.thn g6 (fun c z => .inr (by rcases z with rfl | rfl <;> assumption))
        obtain ⟨⟨dx6, ho6⟩, hdc6⟩ := id gb
        refine ⟨_, rfl, _, rfl, y, t.C_Goer, dx6, _, _, rfl, ho6, t.cl_Goer, t.nA_Goer_spot, Goer_get_spot, _, _, rfl, ?_⟩
        refine ⟨_, rfl, _, rfl, y, t.C_Goer, dx6, _, _, rfl, ho6, t.cl_Goer, t.nA_Goer_spot, Goer_get_spot, _, _, rfl, ?_⟩
        exact ⟨n - (j + 1), by omega, j + 1, ⟨r', c.s + w, put c.l c.s p⟩, _, _, _, rfl, rfl, g16, gb, st2, by omega, hh.app st2, il.app _, ih.app _⟩
    · have cl : ¬ (j : Int) < n := fun z => cl (decide_eq_true z)
      exact ifF rfl ⟨_, rfl, _, rfl, two_le, fin G g (.inr (by omega))⟩
def sp_run : Sp := fun vs H Q _ => ∃ (F : Hp) (m : V) (M : Mach) (R S n : Nat), vs = [m, .int n] ∧ Same F H ∧ Is F m M ∧ MOk M R S ∧ n ≤ 5000 ∧
  ∀ (F' H' : Hp) (l u v : Addr) (xs : List V) (k : Nat) (c : Cfg), Gr mu0 F H F' H' → Gone M n k c → Ow H F' H' l (.lst xs) → IsAll F' xs (told c.l) → Ow H F' H' u (.tup [.int c.r, .int c.s, .ref l]) → Ow H F' H' v (.tup [.str (dueOf M n k c).a.x, .int (dueOf M n k c).b, .ref u]) → Q (.ref v) H'
theorem due_c {M : Mach} {n k : Nat} {c : Cfg} : (dueOf M n k c).c = ⟨c.r, c.s, told c.l⟩ := by unfold dueOf; split <;> rfl
theorem run_is {M : Mach} {n k : Nat} {c : Cfg} {F G : Hp} {l u v : Addr} {xs : List V} (s : Same F G) (hl : G l = some (.lst xs)) (al : IsAll F xs (told c.l)) (hu : G u = some (.tup [.int c.r, .int c.s, .ref l])) (hv : G v = some (.tup [.str (dueOf M n k c).a.x, .int (dueOf M n k c).b, .ref u])) : Is G (.ref v) (dueOf M n k c) := by
  refine ⟨v, _, _, _, rfl, hv, rfl, rfl, ?_⟩
  rw [due_c]
  exact ⟨u, _, _, _, rfl, hu, rfl, rfl, l, xs, rfl, hl, al.up s⟩
theorem ok_run (t : Tx K mg) : FnOk P w K mg base CX0 4 t.a_run t.fd_run ["machine", "most"] sp_run := by
  refine t.F_run.ok sc_run (fun vs H Q E h => ?_) (fun cdv A outer s H vs Q E hr h => ?_)
  · obtain ⟨F, m, M, R, S, n, rfl, _⟩ := h
    rfl
  · obtain ⟨F, m, M, R, S, n, rfl, sF, hm, hM, hn, q⟩ := h
    refine ⟨_, (pss_cons (ps_expr (pe_call (ok_must_machine t) (hr.mono (by decide)) (by rfl) t.m_must_machine t.F_must_machine.kp t.b_must_machine .nil pass0 (pa_cons (pv 0) pa_nil)))
      (pss_cons (ps_asg (pe_call (ok_gone t) (hr.mono (by decide)) (by rfl) t.m_gone t.F_gone.kp t.b_gone .nil pass0 (pa_cons (pv 0) (pa_cons (pv 1) pa_nil))) (pg_tup rfl (pgs_cons (pg_name (i := 2) sc_run.nd rfl (by first | exact Or.inl rfl | exact Or.inr rfl)) (pgs_cons (pg_name (i := 3) sc_run.nd rfl (by first | exact Or.inl rfl | exact Or.inr rfl)) pgs_nil))))
      (pss_cons (ps_if (pt_val (pv 3)) (pss_one (ps_ret (pe_tup (pa_cons pe_str (pa_cons (pe_fld (pv 2) rfl) (pa_cons (pe_meth0 (pv 2) t.cl_Goer t.M_Goer_setup (ok_Goer_setup t) (hr.mono (by decide)) t.b_Goer_setup .nil pass0) pa_nil)))))) pss_nil)
      (pss_one (ps_ret (pe_tup (pa_cons pe_str (pa_cons (pv 1) (pa_cons (pe_meth0 (pv 2) t.cl_Goer t.M_Goer_setup (ok_Goer_setup t) (hr.mono (by decide)) t.b_Goer_setup .nil pass0) pa_nil))))))))), ?_⟩
    refine ⟨_, rfl, F, m, M, R, S, rfl, sF, hm, hM, fun H1 g1 => ?_⟩
    refine ⟨_, rfl, _, rfl, F, m, M, R, S, n, rfl, g1.fh, hm, hM, hn, fun F2 H2 w g d k c g2 hw ng nd fg fd ga go => ?_⟩
    have g12 := g1.trans g2
    refine ⟨w, _, rfl, SqT.of (g2.fh _ _ hw), rfl, _, _, rfl, _, _, rfl, rfl, ?_⟩
    obtain ⟨ok, ll⟩ := stepsC_ok hM go.stp
    have gle := go.le
    obtain ⟨⟨dx, ho⟩, hdc⟩ := id ga
    have key : ∀ (x : Str) (i : Int), (dueOf M n k c).a.x = x → (dueOf M n k c).b = i → ∀ (F' H' : Hp) (p u : Addr) (xs : List V), Gr mu0 F2 H2 F' H' → Ow H2 F' H' p (.lst xs) → IsAll F' xs (told c.l) → Ow H2 F' H' u (.tup [.int c.r, .int c.s, .ref p]) → ∀ v, H' v = none → Q (.ref v) (upd H' v (.tup [.str x, .int i, .ref u])) := by
      intro x i ex ei F' H' p u xs g3 w1 al w2 v nv
      have g13 := g12.trans g3
      refine q F' _ p u v xs k c (g13.own nv) go ⟨g12.th _ w1.n, w1.f, ln nv w1.h⟩ al ⟨g12.th _ w2.n, w2.f, ln nv w2.h⟩ ?_
      rw [ex, ei]
      exact Ow.mk1 g13 nv
    by_cases e : entOf M c = Ent.emp
    · refine ⟨_, rfl, _, rfl, ifT (decide_eq_true e) ?_⟩
      refine ⟨_, rfl, g, t.C_Goer, dx, _, _, rfl, ho, t.cl_Goer, t.nA_Goer_steps, Goer_get_steps, _, rfl, g, dx, _, rfl, ho, Goer_no (by decide +kernel) (by decide +kernel) (by decide +kernel) (by decide +kernel) (by decide +kernel), F2, g, d, m, c.r, c.s, c.l, k, rfl, g2.fh, ga, by omega, fun F' H' p u xs g3 w1 al w2 => ⟨three_le, fun v nv => ?_⟩⟩
      exact key tEnds.x k (by unfold dueOf; rw [if_pos e]) (by unfold dueOf; rw [if_pos e]) F' H' p u xs g3 w1 al w2 v nv
    · refine ⟨_, rfl, _, rfl, ifF (decide_eq_false e) ?_⟩
      refine ⟨_, rfl, _, rfl, g, dx, _, rfl, ho, Goer_no (by decide +kernel) (by decide +kernel) (by decide +kernel) (by decide +kernel) (by decide +kernel), F2, g, d, m, c.r, c.s, c.l, k, rfl, g2.fh, ga, by omega, fun F' H' p u xs g3 w1 al w2 => ⟨three_le, fun v nv => ?_⟩⟩
      exact key tOn.x n (by unfold dueOf; rw [if_neg e]) (by unfold dueOf; rw [if_neg e]) F' H' p u xs g3 w1 al w2 v nv
theorem run_frz {mu : Addr → Prop} {M : Mach} {n k : Nat} {c : Cfg} {F H F1 H1 : Hp} {l u v : Addr} {xs : List V} (g : Gr mu F H F1 H1) (wl : Ow H F1 H1 l (.lst xs)) (al : IsAll F1 xs (told c.l)) (wu : Ow H F1 H1 u (.tup [.int c.r, .int c.s, .ref l])) (wv : Ow H F1 H1 v (.tup [.str (dueOf M n k c).a.x, .int (dueOf M n k c).b, .ref u])) : ∃ F2, Gr mu F H F2 H1 ∧ Same F1 F2 ∧ Is F2 (.ref v) (dueOf M n k c) := by
  have h : ∀ c, (c = l ∨ c = u ∨ c = v) → H c = none ∧ F1 c = none := fun c k => by
    rcases k with rfl | rfl | rfl
    · exact ⟨wl.n, wl.f⟩
    · exact ⟨wu.n, wu.f⟩
    · exact ⟨wv.n, wv.f⟩
  obtain ⟨g2, s⟩ := g.frzS (fun c => c = l ∨ c = u ∨ c = v) h
  exact ⟨_, g2, s, run_is s ((if_pos (.inl rfl)).trans wl.h) al ((if_pos (.inr (.inl rfl))).trans wu.h) ((if_pos (.inr (.inr rfl))).trans wv.h)⟩
theorem cut_take {xs : List V} {j : Nat} : cutV xs none (some (j : Int)) = xs.take j := by
  unfold cutV
  have e1 : HT.sIx xs.length 0 none = 0 := rfl
  have e2 : HT.sIx xs.length xs.length (some (j : Int)) = min j xs.length := by
    simp only [HT.sIx]
    rw [if_neg (by omega), Int.toNat_natCast]
  rw [e1, e2, List.drop_zero, Nat.sub_zero]
  rcases Nat.le_total j xs.length with h | h
  · rw [Nat.min_eq_left h]
  · rw [Nat.min_eq_right h, List.take_length, List.take_of_length_le h]
/-! ### a set of tuples of ints: how many -/
open PySem.Spec PyProof.Rows in
theorem cr_lenSetT {X : Cx} : CallR X (.builtin "len") (fun xs H Q => ∃ (a : Addr) (L : List (Addr × List Int)), xs = [.ref a] ∧ H a = some (SetTO X.prog X.w a L) ∧ (∀ p ∈ L, SqT X.K H p.1 (p.2.map V.int)) ∧ Q (.int L.length) H) := by
  intro pins s σ H xs us Q I r h
  obtain ⟨a, L, rfl, ha, ht, q⟩ := h
  have whole : SetT0 X.prog X.w s.heap a L := (I.hok a _ ha).1
  obtain ⟨es, ep, t, R⟩ := whole.full fun p hp => I.isT (ht p hp)
  rw [Vals.ref1 r]
  obtain ⟨o, ho, hx, hd⟩ := R.ob
  have sz := R.size
  have few := R.few
  exact call_len_set ho hx hd R.fits (by omega) ⟨.int L.length, H, I.tok _, ⟨_, by rw [sz]⟩, q⟩
/-! ### the places of a run, one beside the other -/
structure Spread (cs : List Cfg) (lo hi : Int) : Prop where
  il : IsLo cs lo
  ih : IsHi cs hi
  all : ∀ y, lo ≤ y → y ≤ hi → y ∈ cs.map (·.s)
  rl : ∃ q ∈ recs cs, q.b = lo
  rh : ∃ q ∈ recs cs, q.b = hi
  rb : ∀ q ∈ recs cs, lo ≤ q.b ∧ q.b ≤ hi
  rn : ((recs cs).length : Int) = hi - lo + 1
theorem Hist.cut {M : Mach} {k : Nat} {cs : List Cfg} (h : Hist M k cs) {j : Nat} (l : j ≤ k) : Hist M j (cs.take (j + 1)) := by
  refine ⟨by rw [List.length_take, h.1]; omega, fun i c hi => ?_⟩
  rw [List.getElem?_take] at hi
  split at hi
  · exact h.2 i c hi
  · cases hi
theorem spread {M : Mach} {R S : Nat} (hM : MOk M R S) : ∀ {k : Nat} {cs : List Cfg}, Hist M k cs → ∃ lo hi, Spread cs lo hi := by
  intro k
  induction k with
  | zero =>
    intro cs h
    obtain rfl := h.uniq Hist.one
    refine ⟨0, 0, IsLo.one, IsHi.one, fun y h1 h2 => List.mem_singleton.mpr (by show y = 0; omega), ⟨⟨0, 0⟩, ?_, rfl⟩, ⟨⟨0, 0⟩, ?_, rfl⟩, fun q m => ?_, rfl⟩
    · exact List.mem_singleton.mpr rfl
    · exact List.mem_singleton.mpr rfl
    · rw [List.mem_singleton.mp m]; decide
  | succ k ih =>
    intro cs h
    have hk := h.cut (Nat.le_succ k)
    obtain ⟨lo, hi, sp⟩ := ih hk
    have hc : cs[k + 1]? = some _ := List.getElem?_eq_getElem (by rw [h.1]; omega)
    have st := h.2 _ _ hc
    generalize cs[k + 1]'(by rw [h.1]; omega) = c at hc st
    obtain ⟨b, hb, e⟩ := stepsC_back st
    rw [h.uniq (hk.app st)]
    clear hc st
    generalize cs.take (k + 1) = ds at hk sp ⊢
    have hbm := List.mem_of_getElem? (hk.last hb)
    have b1 := sp.il.2 b.s (List.mem_map.mpr ⟨b, hbm, rfl⟩)
    have b2 := sp.ih.2 b.s (List.mem_map.mpr ⟨b, hbm, rfl⟩)
    have near : c.s = b.s - 1 ∨ c.s = b.s + 1 := by
      obtain ⟨row, _, _, _, eo⟩ := (stepsC_ok hM hb).1.ent hM
      unfold stepC at e
      split at e
      · cases e
      · rename_i p w r he
        cases e
        have hw := (eo.ok _ _ _ he).2.1
        show b.s + w = _ ∨ b.s + w = _
        omega
    have il := sp.il.app c
    have ih' := sp.ih.app c
    have ra := recs_app ds c
    have fi := fresh_iff (c := c) sp.il sp.ih
    have mm : ∀ y, y ∈ (ds ++ [c]).map (·.s) ↔ (y ∈ ds.map (·.s) ∨ y = c.s) := fun y => by
      rw [List.map_append, List.mem_append]
      exact ⟨fun z => z.imp id List.mem_singleton.mp, fun z => z.imp id List.mem_singleton.mpr⟩
    have rn := sp.rn
    by_cases c1 : c.s < lo
    · rw [if_pos c1] at il
      rw [if_neg (show ¬ c.s > hi by omega)] at ih'
      rw [if_pos (fi.mpr (.inl c1))] at ra
      refine ⟨c.s, hi, il, ih', fun y h1 h2 => (mm y).mpr ?_, ?_, ?_, fun q m => ?_, ?_⟩
      · by_cases z : lo ≤ y
        · exact .inl (sp.all y z h2)
        · exact .inr (by omega)
      · rw [ra]; exact ⟨_, List.mem_append_right _ (List.mem_singleton.mpr rfl), rfl⟩
      · obtain ⟨q, m, z⟩ := sp.rh
        rw [ra]; exact ⟨q, List.mem_append_left _ m, z⟩
      · rw [ra] at m
        rcases List.mem_append.mp m with m | m
        · have := sp.rb q m; omega
        · rw [List.mem_singleton.mp m]
          show c.s ≤ c.s ∧ c.s ≤ hi
          omega
      · rw [ra, List.length_append]
        show (((recs ds).length + 1 : Nat) : Int) = _
        omega
    · by_cases c2 : hi < c.s
      · rw [if_neg c1] at il
        rw [if_pos c2] at ih'
        rw [if_pos (fi.mpr (.inr c2))] at ra
        refine ⟨lo, c.s, il, ih', fun y h1 h2 => (mm y).mpr ?_, ?_, ?_, fun q m => ?_, ?_⟩
        · by_cases z : y ≤ hi
          · exact .inl (sp.all y h1 z)
          · exact .inr (by omega)
        · obtain ⟨q, m, z⟩ := sp.rl
          rw [ra]; exact ⟨q, List.mem_append_left _ m, z⟩
        · rw [ra]; exact ⟨_, List.mem_append_right _ (List.mem_singleton.mpr rfl), rfl⟩
        · rw [ra] at m
          rcases List.mem_append.mp m with m | m
          · have := sp.rb q m; omega
          · rw [List.mem_singleton.mp m]
            show lo ≤ c.s ∧ c.s ≤ c.s
            omega
        · rw [ra, List.length_append]
          show (((recs ds).length + 1 : Nat) : Int) = _
          omega
      · rw [if_neg c1] at il
        rw [if_neg (show ¬ c.s > hi by omega)] at ih'
        rw [if_neg (fun z => by rcases fi.mp z with z | z <;> omega)] at ra
        refine ⟨lo, hi, il, ih', fun y h1 h2 => (mm y).mpr (.inl (sp.all y h1 h2)), by rw [ra]; exact sp.rl, by rw [ra]; exact sp.rh, fun q m => sp.rb q (by rw [ra] at m; exact m), by rw [ra]; exact rn⟩
/-! ### lists that rise -/
theorem rise_uniq : ∀ {l m : List Int}, l.Pairwise (· < ·) → m.Pairwise (· < ·) → (∀ y, y ∈ l ↔ y ∈ m) → l = m
  | [], [], _, _, _ => rfl
  | [], y :: m, _, _, h => absurd ((h y).mpr List.mem_cons_self) (fun z => nomatch z)
  | x :: l, [], _, _, h => absurd ((h x).mp List.mem_cons_self) (fun z => nomatch z)
  | x :: l, y :: m, hl, hm, h => by
    have hl' := List.pairwise_cons.mp hl
    have hm' := List.pairwise_cons.mp hm
    have e : x = y := by
      have h1 := List.mem_cons.mp ((h x).mp List.mem_cons_self)
      have h2 := List.mem_cons.mp ((h y).mpr List.mem_cons_self)
      rcases h1 with h1 | h1
      · exact h1
      rcases h2 with h2 | h2
      · exact h2.symm
      have := hm'.1 x h1
      have := hl'.1 y h2
      omega
    subst e
    rw [rise_uniq hl'.2 hm'.2 fun z => ?_]
    have k := h z
    rw [List.mem_cons, List.mem_cons] at k
    constructor
    · intro m
      have := hl'.1 z m
      exact (k.mp (.inr m)).resolve_left (by omega)
    · intro m
      have := hm'.1 z m
      exact (k.mpr (.inr m)).resolve_left (by omega)
theorem rng_rise (a : Int) : ∀ n : Nat, ((List.range n).map fun i : Nat => a + (i : Int)).Pairwise (· < ·) := by
  intro n
  rw [List.pairwise_map]
  refine List.Pairwise.imp ?_ List.pairwise_lt_range
  intro i j h
  omega
theorem keys_rng {cs : List Cfg} {lo hi : Int} (sp : Spread cs lo hi) : (srt (cnt cs)).map (·.a) = (List.range (hi + 1 - lo).toNat).map fun i : Nat => lo + (i : Int) := by
  obtain ⟨nd, _, ck⟩ := cnt_facts cs
  refine rise_uniq ?_ (rng_rise lo _) fun y => ?_
  · have nd2 := nd_srt nd
    have p := srt_srt (cnt cs)
    rw [List.pairwise_map]
    have nd3 : (srt (cnt cs)).Pairwise fun p q : PI => p.a ≠ q.a := List.pairwise_map.mp nd2
    refine (p.and nd3).imp fun {p q} ⟨h1, h2⟩ => ?_
    rcases leP_iff.mp h1 with z | z
    · exact z
    · exact absurd z.1 h2
  · have e1 : y ∈ (srt (cnt cs)).map (·.a) ↔ y ∈ dk (cnt cs) := ((srt_perm (cnt cs)).map (fun p : PI => p.a)).mem_iff
    rw [e1, ck]
    constructor
    · intro m
      have h1 := sp.il.2 y m
      have h2 := sp.ih.2 y m
      exact List.mem_map.mpr ⟨(y - lo).toNat, List.mem_range.mpr (by omega), by omega⟩
    · intro m
      obtain ⟨i, hi', rfl⟩ := List.mem_map.mp m
      have := List.mem_range.mp hi'
      exact sp.all _ (by omega) (by omega)
/-! ### how often, together -/
theorem sum_set {x u v : Int} : ∀ {l : List PI}, Nd l → look l x = some u → ((l.map fun p => if p.a = x then (⟨p.a, v⟩ : PI) else p).map (·.b)).sum = (l.map (·.b)).sum - u + v
  | [], _, h => nomatch h
  | p :: l, nd, h => by
    have nd' : p.a ∉ l.map (·.a) ∧ Nd l := List.nodup_cons.mp nd
    rw [look_cons] at h
    rw [List.map_cons, List.map_cons, List.sum_cons, List.map_cons, List.sum_cons]
    by_cases e : p.a = x
    · rw [if_pos e] at h ⊢
      cases h
      have id' : (l.map fun p => if p.a = x then (⟨p.a, v⟩ : PI) else p) = l := by
        refine (List.map_congr_left fun q m => ?_).trans (List.map_id l)
        rw [if_neg (fun z => nd'.1 (List.mem_map.mpr ⟨q, m, by rw [z, e]⟩))]; rfl
      rw [id']
      have key : ∀ s : Int, v + s = p.b + s - p.b + v := fun s => by omega
      exact key _
    · rw [if_neg e] at h ⊢
      rw [sum_set nd'.2 h]
      omega
theorem sum_cnt1 {l : List PI} (nd : Nd l) (c : Cfg) : ((cnt1 l c).map (·.b)).sum = (l.map (·.b)).sum + 1 := by
  unfold cnt1
  cases e : look l c.s with
  | none =>
    rw [put_new _ e, List.map_append, List.sum_append]
    rw [show ([(⟨c.s, (none : Option Int).getD 0 + 1⟩ : PI)].map (·.b)).sum = 1 from rfl]
  | some u =>
    have e2 : put l c.s (u + 1) = l.map (fun p => if p.a = c.s then ⟨p.a, u + 1⟩ else p) := by
      unfold put
      rw [look_any, e]; rfl
    have key : ∀ s : Int, s - u + (u + 1) = s + 1 := fun s => by omega
    have h := sum_set (v := u + 1) nd e
    rw [← e2] at h
    exact h.trans (key _)
theorem cnt_sum (cs : List Cfg) : ((cnt cs).map (·.b)).sum = cs.length ∧ ∀ q ∈ cnt cs, 1 ≤ q.b := by
  have h : ∀ (cs : List Cfg) (l : List PI), Nd l → (∀ q ∈ l, 1 ≤ q.b) → ((cs.foldl cnt1 l).map (·.b)).sum = (l.map (·.b)).sum + cs.length ∧ ∀ q ∈ cs.foldl cnt1 l, 1 ≤ q.b := by
    intro cs
    induction cs with
    | nil =>
      intro l _ h
      have key : ∀ s : Int, s = s + ((0 : Nat) : Int) := fun s => by omega
      exact ⟨key _, h⟩
    | cons c cs ih =>
      intro l nd h
      obtain ⟨a, b⟩ := ih (cnt1 l c) (nd_put nd _ _) fun q m => by
        rcases mem_put m with m | rfl
        · exact h q m
        · show 1 ≤ (look l c.s).getD 0 + 1
          cases e : look l c.s with
          | none => decide
          | some u =>
            have := h _ (mem_look e)
            show 1 ≤ u + 1
            have : (1 : Int) ≤ u := this
            omega
      refine ⟨?_, b⟩
      have key : ∀ s : Int, s + 1 + (cs.length : Int) = s + ((c :: cs).length : Int) := fun s => by rw [List.length_cons]; omega
      refine a.trans ?_
      rw [sum_cnt1 nd]
      exact key _
  obtain ⟨a, b⟩ := h cs [] nd_nil (fun q m => nomatch m)
  exact ⟨by rw [show cnt cs = cs.foldl cnt1 [] from rfl, a, List.map_nil, List.sum_nil, Int.zero_add], b⟩
/-! ### the entries met -/
theorem met_nd (cs : List Cfg) : (met cs).Nodup := by
  have h : ∀ (cs : List Cfg) (acc : List PI), acc.Nodup → (cs.foldl met1 acc).Nodup := by
    intro cs
    induction cs with
    | nil => exact fun acc h => h
    | cons c cs ih =>
      intro acc h
      refine ih (met1 acc c) ?_
      unfold met1
      split
      · exact h
      · rename_i n
        exact List.nodup_append.mpr ⟨h, List.nodup_cons.mpr ⟨(fun z => nomatch z), List.nodup_nil⟩, fun a ma b mb => by rw [List.mem_singleton.mp mb]; exact fun z => n (by rw [← z]; exact ma)⟩
  exact h cs [] List.nodup_nil
theorem met_mem {cs : List Cfg} {e : PI} : e ∈ met cs ↔ ∃ c ∈ cs, lkOf c = e := by
  have h : ∀ (cs : List Cfg) (acc : List PI), e ∈ cs.foldl met1 acc ↔ (e ∈ acc ∨ ∃ c ∈ cs, lkOf c = e) := by
    intro cs
    induction cs with
    | nil => exact fun acc => ⟨.inl, fun z => z.elim id fun ⟨c, m, _⟩ => nomatch m⟩
    | cons c cs ih =>
      intro acc
      show e ∈ cs.foldl met1 (met1 acc c) ↔ _
      rw [ih]
      have k : e ∈ met1 acc c ↔ (e ∈ acc ∨ lkOf c = e) := by
        unfold met1
        split
        · rename_i m
          exact ⟨.inl, fun z => z.elim id fun w => by rw [← w]; exact m⟩
        · rw [List.mem_append]
          exact ⟨fun z => z.imp id fun w => (List.mem_singleton.mp w).symm, fun z => z.imp id fun w => List.mem_singleton.mpr w.symm⟩
      rw [k]
      constructor
      · rintro ((z | z) | ⟨d, m, z⟩)
        · exact .inl z
        · exact .inr ⟨c, List.mem_cons_self, z⟩
        · exact .inr ⟨d, List.mem_cons_of_mem _ m, z⟩
      · rintro (z | ⟨d, m, z⟩)
        · exact .inl (.inl z)
        · rcases List.mem_cons.mp m with rfl | m
          · exact .inl (.inr z)
          · exact .inr ⟨d, m, z⟩
  exact (h cs []).trans ⟨fun z => z.elim (fun w => nomatch w) id, .inr⟩
theorem met_more (ds : List Cfg) : ∀ acc : List PI, ∃ t, ds.foldl met1 acc = acc ++ t := by
  induction ds with
  | nil => exact fun acc => ⟨[], (List.append_nil _).symm⟩
  | cons d ds ih =>
    intro acc
    obtain ⟨t, ht⟩ := ih (met1 acc d)
    show ∃ t, ds.foldl met1 (met1 acc d) = acc ++ t
    rw [ht]
    unfold met1
    split
    · exact ⟨t, rfl⟩
    · exact ⟨[lkOf d] ++ t, by rw [List.append_assoc]⟩
theorem least {P : Nat → Prop} : ∀ n, P n → ∃ j, P j ∧ ∀ i, i < j → ¬ P i := by
  intro n
  induction n using Nat.strongRecOn with
  | ind n ih =>
    intro h
    by_cases z : ∃ i, i < n ∧ P i
    · obtain ⟨i, hi, hp⟩ := z
      exact ih i hi hp
    · exact ⟨n, h, fun i hi hp => z ⟨i, hi, hp⟩⟩
/-- where an entry is first looked up -/
theorem met_first {cs : List Cfg} {at' : Nat} {e : PI} (h : (met cs)[at']? = some e) : ∃ j c, cs[j]? = some c ∧ lkOf c = e ∧ (∀ i d, i < j → cs[i]? = some d → lkOf d ≠ e) ∧ met (cs.take (j + 1)) = (met cs).take (at' + 1) := by
  obtain ⟨c, m, hc⟩ := met_mem.mp (List.mem_of_getElem? h)
  obtain ⟨n, hn⟩ := List.getElem?_of_mem m
  obtain ⟨j, ⟨d, hd, hde⟩, hl⟩ := least (P := fun j => ∃ d, cs[j]? = some d ∧ lkOf d = e) n ⟨c, hn, hc⟩
  have tk : cs.take (j + 1) = cs.take j ++ [d] := by rw [List.take_add_one, hd]; rfl
  have no : lkOf d ∉ met (cs.take j) := fun z => by
    obtain ⟨b, mb, hb⟩ := met_mem.mp z
    obtain ⟨i, hi⟩ := List.getElem?_of_mem mb
    rw [List.getElem?_take] at hi
    split at hi
    · rename_i il
      exact hl i il ⟨b, hi, hb.trans hde⟩
    · cases hi
  have m1 : met (cs.take (j + 1)) = met (cs.take j) ++ [e] := by
    rw [tk, met_app]
    unfold met1
    rw [if_neg no, hde]
  obtain ⟨t, ht⟩ := met_more (cs.drop (j + 1)) (met (cs.take (j + 1)))
  have whole : met cs = met (cs.take (j + 1)) ++ t := by
    rw [← ht]
    unfold met
    rw [← List.foldl_append, List.take_append_drop]
  have e1 : (met cs)[(met (cs.take j)).length]? = some e := by
    rw [whole, m1, List.append_assoc, List.getElem?_append_right (Nat.le_refl _), Nat.sub_self]; rfl
  have l1 := (List.getElem?_eq_some_iff.mp h).1
  have ea : at' = (met (cs.take j)).length := (List.getElem?_inj l1 (met_nd cs)).mp (h.trans e1.symm)
  refine ⟨j, d, hd, hde, fun i b il hb hbe => hl i il ⟨b, hb, hbe⟩, ?_⟩
  have l2 : (met (cs.take (j + 1))).length = at' + 1 := by rw [m1, List.length_append, ea]; rfl
  rw [whole, ← l2, List.take_left]
/-! ### a machine of which some entries are kept -/
def Keeps (M : Mach) (E : List PI) (N : Mach) : Prop := N.length = M.length ∧ ∀ (k : Nat) row, M[k]? = some row → ∃ row', N[k]? = some row' ∧ row'.length = row.length ∧ ∀ (j : Nat) e, row[j]? = some e → row'[j]? = some (if (⟨k, j⟩ : PI) ∈ E then e else .emp)
theorem Keeps.ok {M N : Mach} {E : List PI} {R S : Nat} (h : Keeps M E N) (hM : MOk M R S) : MOk N R S := by
  have row : ∀ r ∈ N, ∃ (k : Nat) (row : List Ent), M[k]? = some row ∧ r.length = row.length ∧ ∀ (j : Nat) e, row[j]? = some e → r[j]? = some (if (⟨k, j⟩ : PI) ∈ E then e else .emp) := fun r m => by
    obtain ⟨k, hk⟩ := List.getElem?_of_mem m
    have l := (List.getElem?_eq_some_iff.mp hk).1
    have hr : M[k]? = some _ := List.getElem?_eq_getElem (by rw [← h.1]; exact l)
    obtain ⟨r', h1, h2, h3⟩ := h.2 k _ hr
    rw [hk] at h1
    cases h1
    exact ⟨k, _, hr, h2, h3⟩
  refine ⟨hM.r1, hM.r4, hM.s2, hM.s4, h.1.trans hM.len, fun r m => ?_, fun r m e me => ?_⟩
  · obtain ⟨k, r', h1, h2, _⟩ := row r m
    rw [h2]; exact hM.row r' (List.mem_of_getElem? h1)
  · obtain ⟨k, r', h1, h2, h3⟩ := row r m
    obtain ⟨j, hj⟩ := List.getElem?_of_mem me
    have l := (List.getElem?_eq_some_iff.mp hj).1
    have he : r'[j]? = some _ := List.getElem?_eq_getElem (by rw [← h2]; exact l)
    have := h3 j _ he
    rw [hj] at this
    rw [Option.some.inj this]
    split
    · exact hM.ent r' (List.mem_of_getElem? h1) _ (List.mem_of_getElem? he)
    · exact ⟨fun p w r z => nomatch z⟩
theorem Keeps.ent {M N : Mach} {E : List PI} {R S : Nat} (h : Keeps M E N) (hM : MOk M R S) {c : Cfg} (ok : CfOk R S c) : entOf N c = if lkOf c ∈ E then entOf M c else .emp := by
  obtain ⟨row, h1, s0, h2, _⟩ := ok.ent hM
  obtain ⟨row', k1, _, k3⟩ := h.2 _ _ h1
  have k4 := k3 _ _ h2
  have e : (⟨(c.r.toNat : Int), (((look c.l c.s).getD 0).toNat : Int)⟩ : PI) = lkOf c := by
    unfold lkOf gz
    rw [Int.toNat_of_nonneg ok.r0, Int.toNat_of_nonneg s0]
  rw [e] at k4
  show ((N[c.r.toNat]?.getD [])[((look c.l c.s).getD 0).toNat]?).getD .emp = _
  rw [k1, Option.getD_some, k4, Option.getD_some]
theorem Keeps.run {M N : Mach} {E : List PI} {R S : Nat} (h : Keeps M E N) (hM : MOk M R S) : ∀ j : Nat, (∀ i c, i < j → stepsC M i = some c → lkOf c ∈ E) → stepsC N j = stepsC M j
  | 0, _ => rfl
  | j + 1, k => by
    have ih := Keeps.run h hM j fun i c l => k i c (by omega)
    show (stepsC N j).bind (stepC N) = (stepsC M j).bind (stepC M)
    rw [ih]
    cases e : stepsC M j with
    | none => rfl
    | some c =>
      show stepC N c = stepC M c
      have z := h.ent hM (stepsC_ok hM e).1
      rw [if_pos (k j c (Nat.lt_succ_self _) e)] at z
      unfold stepC
      rw [z]
theorem keeps_all {M N : Mach} {R S n k : Nat} {c : Cfg} {cs : List Cfg} (hM : MOk M R S) (h : Keeps M (met cs) N) (go : Gone M n k c) (hh : Hist M k cs) : Gone N n k c ∧ Hist N k cs ∧ entOf N c = entOf M c ∧ PartOf M N n none := by
  have lk : ∀ i d, i < k + 1 → stepsC M i = some d → lkOf d ∈ met cs := fun i d l e => by
    have hi : cs[i]? = some _ := List.getElem?_eq_getElem (by rw [hh.1]; exact l)
    have e2 := hh.2 _ _ hi
    rw [e] at e2
    cases e2
    exact met_mem.mpr ⟨_, List.mem_of_getElem? hi, rfl⟩
  have same : ∀ j, j ≤ k → stepsC N j = stepsC M j := fun j l => h.run hM j fun i d li => lk i d (by omega)
  have ec : entOf N c = entOf M c := by
    rw [h.ent hM (stepsC_ok hM go.stp).1, if_pos (lk k c (Nat.lt_succ_self _) go.stp)]
  have sc : stepC N c = stepC M c := by unfold stepC; rw [ec]
  have gN : Gone N n k c := ⟨go.le, (same k (Nat.le_refl _)).trans go.stp, by rw [sc]; exact go.fin⟩
  refine ⟨gN, ⟨hh.1, fun i d hi => ?_⟩, ec, fun j hj z => z ?_⟩
  · have l := (List.getElem?_eq_some_iff.mp hi).1
    rw [hh.1] at l
    rw [same i (by omega)]; exact hh.2 i d hi
  · by_cases l : j ≤ k
    · rw [same j l]
    · rw [gone_none go (l := j) (by omega) hj, gone_none gN (l := j) (by omega) hj]
theorem keeps_less {M N : Mach} {R S n k j : Nat} {c d : Cfg} {cs : List Cfg} {E : List PI} (hM : MOk M R S) (h : Keeps M E N) (go : Gone M n k c) (hh : Hist M k cs) (hd : cs[j]? = some d) (hE : ∀ x, x ∈ E ↔ (x ∈ met cs ∧ x ≠ lkOf d))
    (hf : ∀ i b, i < j → cs[i]? = some b → lkOf b ≠ lkOf d) : Gone N n j d ∧ Hist N j (cs.take (j + 1)) ∧ entOf N d = .emp ∧ PartOf M N n (if entOf M d = .emp ∨ j = n then none else some (j + 1)) := by
  have lj := (List.getElem?_eq_some_iff.mp hd).1
  rw [hh.1] at lj
  have std := hh.2 _ _ hd
  have lk : ∀ i b, i < j → stepsC M i = some b → lkOf b ∈ E := fun i b l e => by
    have hi : cs[i]? = some _ := List.getElem?_eq_getElem (by rw [hh.1]; omega)
    have e2 := hh.2 _ _ hi
    rw [e] at e2
    cases e2
    exact (hE _).mpr ⟨met_mem.mpr ⟨_, List.mem_of_getElem? hi, rfl⟩, hf i _ l hi⟩
  have same : ∀ i, i ≤ j → stepsC N i = stepsC M i := fun i l => h.run hM i fun i' b li => lk i' b (by omega)
  have ed : entOf N d = .emp := by
    rw [h.ent hM (stepsC_ok hM std).1, if_neg (fun z => ((hE _).mp z).2 rfl)]
  have gle := go.le
  have gN : Gone N n j d := ⟨by omega, (same j (Nat.le_refl _)).trans std, .inl (stepC_none.mpr ed)⟩
  refine ⟨gN, ?_, ed, ?_⟩
  · have hc := hh.cut (show j ≤ k by omega)
    refine ⟨hc.1, fun i b hi => ?_⟩
    have l := (List.getElem?_eq_some_iff.mp hi).1
    rw [hc.1] at l
    rw [same i (by omega)]; exact hc.2 i b hi
  · have low : ∀ i, i ≤ j → ¬ DiffAt M N i := fun i l z => z (by rw [same i l])
    by_cases q : entOf M d = .emp ∨ j = n
    · rw [if_pos q]
      intro i hi
      by_cases l : i ≤ j
      · exact low i l
      · rcases q with q | q
        · have e1 := stepsC_end std (stepC_none.mpr q) (i - (j + 1))
          rw [show j + 1 + (i - (j + 1)) = i by omega] at e1
          intro z
          exact z (by rw [e1, gone_none gN (l := i) (by omega) hi])
        · omega
    · rw [if_neg q]
      refine ⟨by omega, fun z => ?_, fun i l => low i (by omega)⟩
      rw [gone_none gN (l := j + 1) (by omega) (by omega), stepsC_next std] at z
      cases e : stepC M d with
      | none => exact q (.inl (stepC_none.mp e))
      | some b => rw [e] at z; cases z
theorem without_mem {E : List PI} {at' : Nat} {e : PI} (nd : E.Nodup) (h : E[at']? = some e) : ∀ x, x ∈ E.take at' ++ E.drop (at' + 1) ↔ (x ∈ E ∧ x ≠ e) := by
  have l := (List.getElem?_eq_some_iff.mp h).1
  intro x
  have whole : E = E.take at' ++ e :: E.drop (at' + 1) := by
    have e1 := List.take_append_drop at' E
    rw [List.drop_eq_getElem_cons l] at e1
    have e2 := (List.getElem?_eq_some_iff.mp h).2
    rw [e2] at e1
    exact e1.symm
  rw [whole] at nd
  have nd' := List.nodup_append.mp nd
  have nd2 := List.nodup_cons.mp nd'.2.1
  constructor
  · intro m
    refine ⟨by rw [whole]; exact (List.mem_append.mp m).elim (fun z => List.mem_append_left _ z) (fun z => List.mem_append_right _ (List.mem_cons_of_mem _ z)), fun z => ?_⟩
    rw [z] at m
    rcases List.mem_append.mp m with m | m
    · exact nd'.2.2 e m e List.mem_cons_self rfl
    · exact nd2.1 m
  · rintro ⟨m, ne⟩
    rw [whole] at m
    rcases List.mem_append.mp m with m | m
    · exact List.mem_append_left _ m
    · rcases List.mem_cons.mp m with m | m
      · exact absurd m ne
      · exact List.mem_append_right _ m
theorem nd_len {α : Type} [DecidableEq α] : ∀ {l m : List α}, l.Nodup → (∀ x ∈ l, x ∈ m) → l.length ≤ m.length
  | [], m, _, _ => Nat.zero_le _
  | x :: l, m, nd, h => by
    have nd' := List.nodup_cons.mp nd
    have hx := h x List.mem_cons_self
    have h2 := nd_len (m := m.erase x) nd'.2 fun y my => (List.mem_erase_of_ne (fun z => nd'.1 (by rw [← z]; exact my))).mpr (h y (List.mem_cons_of_mem _ my))
    rw [List.length_erase_of_mem hx] at h2
    have := List.length_pos_of_mem hx
    rw [List.length_cons]
    omega
/-- no more entries are met than there are -/
theorem met_few {M : Mach} {R S k : Nat} {cs : List Cfg} (hM : MOk M R S) (hh : Hist M k cs) : (met cs).length ≤ 16 := by
  have h : ∀ x ∈ met cs, x ∈ ((List.range 16).map fun i => (⟨((i / 4 : Nat) : Int), ((i % 4 : Nat) : Int)⟩ : PI)) := fun x m => by
    obtain ⟨c, mc, rfl⟩ := met_mem.mp m
    obtain ⟨i, hi⟩ := List.getElem?_of_mem mc
    have ok := (stepsC_ok hM (hh.2 i c hi)).1
    have r0 := ok.r0
    have r1 := ok.r1
    have r4 := hM.r4
    have s4 := hM.s4
    obtain ⟨s0, s1⟩ := ok.look (by have := hM.s2; omega) c.s
    refine List.mem_map.mpr ⟨4 * c.r.toNat + ((look c.l c.s).getD 0).toNat, List.mem_range.mpr (by omega), ?_⟩
    unfold lkOf gz
    congr 1 <;> omega
  have := nd_len (met_nd cs) h
  rw [List.length_map, List.length_range] at this
  exact this
theorem in_dat {α : Type} [Dat α] [DecidableEq α] {K : PySem.W.Frag} {H : Hp} {x y : V} {d : α} {ds : List α} {Q : VK} (hx : Is H x d) (hy : Is H y ds) (q : Q (.bl (decide (d ∈ ds))) H) (hd : Dat.dep α + 1 ≤ 64 := by decide) : rInD K x y H Q := by
  obtain ⟨h1, _, _⟩ := eq_dat0 (a := d) (b := d) (by omega)
  obtain ⟨h2, _, _⟩ := eq_dat0 (a := ds) (b := ds) hd
  refine ⟨Dat.py d, ds.map Dat.py, Dat.dp hx, Dat.dp hy, h1, h2, ?_⟩
  have e : ((ds.map Dat.py).any fun z => PyData.eqv z (Dat.py d)) = decide (d ∈ ds) := by
    rw [Bool.eq_iff_iff, List.any_eq_true, decide_eq_true_iff]
    constructor
    · rintro ⟨z, m, e⟩
      obtain ⟨c, mc, rfl⟩ := List.mem_map.mp m
      rw [(Dat.eqv c d).mp e] at mc
      exact mc
    · exact fun m => ⟨_, List.mem_map.mpr ⟨d, m, rfl⟩, (Dat.eqv d d).mpr rfl⟩
  rw [e]
  exact q
def sp_L_kept : Sp := fun vs H Q _ => ∃ (F : Hp) (m u : V) (M : Mach) (R S : Nat) (E : List PI), vs = [m, u] ∧ Same F H ∧ Is F m M ∧ MOk M R S ∧ Is F u E ∧
  ∀ (F' H' : Hp) (v : V) (N : Mach), Gr mu0 F H F' H' → Is F' v N → Keeps M E N → Q v H'
theorem ok_L_kept (t : Tx K mg) : FnOk P w K mg base CX0 1 t.a_L_kept t.fd_L_kept ["_law_machine_here", "_law_entries"] sp_L_kept := by
  refine t.F_L_kept.ok sc_L_kept (fun vs H Q E h => ?_) (fun cdv A outer s H vs Q E hr h => ?_)
  · obtain ⟨F, m, u, M, R, S, E, rfl, _⟩ := h
    rfl
  · obtain ⟨F, m, u, M, R, S, En, rfl, sF, hm, hM, hu, q⟩ := h
    refine ⟨_, (pss_cons (ps_set (i := 2) sc_L_kept.nd rfl (by first | exact Or.inl rfl | exact Or.inr rfl) (pe_lst pa_nil))
      (pss_cons (ps_for PassesOwn.never rfl (pi_range1 (by rfl) t.n_range (pa_cons (pe_callB (id := "len") call_lenQ (by rfl) t.n_len (by decide +kernel) (pa_cons (pv 0) pa_nil)) pa_nil)) (pg_name (i := 3) sc_L_kept.nd rfl (by first | exact Or.inl rfl | exact Or.inr rfl)) (pss_cons (ps_set (i := 4) sc_L_kept.nd rfl (by first | exact Or.inl rfl | exact Or.inr rfl) (pe_lst pa_nil))
      (pss_cons (ps_for PassesOwn.never rfl (pi_range1 (by rfl) t.n_range (pa_cons (pe_callB (id := "len") call_lenQ (by rfl) t.n_len (by decide +kernel) (pa_cons (pe_ix ix_list (pv 0) (pv 3) (fun _ _ => rfl)) pa_nil)) pa_nil)) (pg_name (i := 5) sc_L_kept.nd rfl (by first | exact Or.inl rfl | exact Or.inr rfl)) (pss_one (ps_expr (pe_bm PySem.F.plainAttrs_list PySem.F.slot_list_append PySem.F.type_list_append mt_append (pv 4) (pa_cons (pe_ix ix_list (pe_lst (pa_cons (pe_tup pa_nil) (pa_cons (pe_ix ix_list (pe_ix ix_list (pv 0) (pv 3) (fun _ _ => rfl)) (pv 5) (fun _ _ => rfl)) pa_nil))) (pe_callTy (T := "int") call_int1 (by rfl) t.n_int (by decide +kernel) (pa_cons (pe_cmpR (op_inD (u65 hr)) (pe_tup (pa_cons (pv 3) (pa_cons (pv 5) pa_nil))) (pv 1) (by rfl)) pa_nil)) (fun _ _ => rfl)) pa_nil)))))
      (pss_one (ps_expr (pe_bm PySem.F.plainAttrs_list PySem.F.slot_list_append PySem.F.type_list_append mt_append (pv 2) (pa_cons (pv 4) pa_nil)))))))
      (pss_one (ps_ret (pv 2))))), ?_⟩
    have g0 : Gr mu0 F H F H := Gr.refl sF
    obtain ⟨am, rs, rfl, ham, hrs⟩ := id hm
    have r4 := hM.r4
    have s4 := hM.s4
    have lrs : rs.length = R := hrs.1.trans hM.len
    refine ⟨nil_le, fun D nD => ?_⟩
    have g1 := g0.own (o := .lst []) nD
    have w1 : Ow H F (upd H D (.lst [])) D (.lst []) := Ow.mk1 g0 nD
    generalize upd H D (.lst []) = H1 at g1 w1
    refine ⟨_, rfl, am, rs, rfl, .inl (SqL.of (g1.fh _ _ ham)), (rs.length : Int), rfl, by omega, by omega, for_range (lo := 0) (n := ((rs.length : Int)).toNat) (fun i σ G => ∃ (F1 : Hp) (xs : List V) (N : Mach) (v3 v4 v5 : Option V), σ = [some (.ref am), some u, some (.ref D), v3, v4, v5] ∧ Gr mu0 F H F1 G ∧ Ow H F1 G D (.lst xs) ∧ IsAll F1 xs N ∧ N.length = i ∧
      ∀ (k : Nat) row, k < i → M[k]? = some row → ∃ row', N[k]? = some row' ∧ row'.length = row.length ∧ ∀ (j : Nat) e, row[j]? = some e → row'[j]? = some (if (⟨k, j⟩ : PI) ∈ En then e else .emp)) ⟨F, [], [], none, none, none, rfl, g1, w1, All2.nil, rfl, fun k row h => absurd h (Nat.not_lt_zero _)⟩ ?_ ?_⟩
    · rintro i σ G hi ⟨F1, xs, N, v3, v4, v5, rfl, g, w, al, lN, hN⟩
      have il : i < rs.length := by omega
      have hMi : M[i]? = some _ := List.getElem?_eq_getElem (by rw [← hrs.1]; exact il)
      obtain ⟨x, hx, ra, es, rfl, hra, hes⟩ := hrs.get hMi
      generalize M[i]'(by rw [← hrs.1]; exact il) = row at hMi hes
      have lrow : row.length = S := hM.row _ (List.mem_of_getElem? hMi)
      have les : es.length = S := hes.1.trans lrow
      refine ⟨nil_le, fun r nr => ?_⟩
      have Dr := w.ne nr
      have g2 := g.own (o := .lst []) nr
      have w2 := w.own (u := .lst []) nr
      have wr : Ow H F1 (upd G r (.lst [])) r (.lst []) := Ow.mk1 g nr
      generalize upd G r (.lst []) = G2 at g2 w2 wr
      refine ⟨_, rfl, _, rfl, am, _, _, _, rfl, rfl, SqL.of (g2.fh _ _ (g.ff _ _ ham)), at_of (j := i) (Int.zero_add _) hx, ra, es, rfl, .inl (SqL.of (g2.fh _ _ (g.ff _ _ hra))), (es.length : Int), rfl, by omega, by omega, for_range (lo := 0) (n := ((es.length : Int)).toNat) (fun j σ G => ∃ (F2 : Hp) (ys : List V) (nr' : List Ent) (v5 : Option V), σ = [some (.ref am), some u, some (.ref D), some (.int (0 + (i : Int))), some (.ref r), v5] ∧ Gr mu0 F H F2 G ∧ Same F1 F2 ∧ Ow H F2 G D (.lst xs) ∧ Ow H F2 G r (.lst ys) ∧ IsAll F2 ys nr' ∧ nr'.length = j ∧
        ∀ (k : Nat) e, k < j → row[k]? = some e → nr'[k]? = some (if (⟨i, k⟩ : PI) ∈ En then e else .emp)) ⟨F1, [], [], v5, rfl, g2, Same.refl _, w2, wr, All2.nil, rfl, fun k e h => absurd h (Nat.not_lt_zero _)⟩ ?_ ?_⟩
      · rintro j σ G hj ⟨F2, ys, nw, v5, rfl, g, s2, wD, wr, aly, lnw, hnw⟩
        have jl : j < es.length := by omega
        have hrj : row[j]? = some _ := List.getElem?_eq_getElem (by omega)
        generalize row[j]'(by omega) = e at hrj
        obtain ⟨ev, hev, he⟩ := hes.get hrj
        refine ⟨_, rfl, .inl ⟨rfl, _, SqL.of wr.h⟩, nil_le, fun q0 nq => ?_⟩
        have g3 := g.new (o := .tup []) nq
        have s3 : Same F2 (upd F2 q0 (.tup [])) := sm_new (Same.refl F2) (g.fh.free nq)
        have wD3 := wD.new (u := .tup []) nq
        have wr3 := wr.new (u := .tup []) nq
        have i0 : Is (upd F2 q0 (.tup [])) (.ref q0) Ent.emp := ⟨q0, rfl, upd_same⟩
        have sF3 : Same F (upd F2 q0 (.tup [])) := g3.ff
        have he3 : Is (upd F2 q0 (.tup [])) ev e := he.up sF3
        have aly3 := IsAll.up aly s3
        have s13 : Same F1 (upd F2 q0 (.tup [])) := fun c o h => s3 _ _ (s2 _ _ h)
        generalize upd F2 q0 (.tup []) = F3 at g3 wD3 wr3 i0 sF3 he3 aly3 s13
        generalize upd G q0 (.tup []) = G3 at g3 wD3 wr3
        refine ⟨_, rfl, _, rfl, am, _, _, _, rfl, rfl, SqL.of (g3.fh _ _ (sF3 _ _ ham)), at_of (j := i) (Int.zero_add _) hx, _, rfl, ra, _, _, _, rfl, rfl, SqL.of (g3.fh _ _ (sF3 _ _ hra)), at_of (j := j) (Int.zero_add _) hev, two_le, fun l nl => ?_⟩
        have g4 := g3.own (o := .lst [.ref q0, ev]) nl
        have hl4 : (upd G3 l (.lst [.ref q0, ev])) l = some (.lst [.ref q0, ev]) := upd_same
        have wD4 := wD3.own (u := .lst [.ref q0, ev]) nl
        have wr4 := wr3.own (u := .lst [.ref q0, ev]) nl
        generalize upd G3 l (.lst [.ref q0, ev]) = G4 at g4 hl4 wD4 wr4
        refine ⟨_, rfl, _, rfl, two_le, fun t0 nt => ?_⟩
        have g5 := g4.own (o := .tup [.int (0 + (i : Int)), .int (0 + (j : Int))]) nt
        have hl5 := ln (u := .tup [.int (0 + (i : Int)), .int (0 + (j : Int))]) nt hl4
        have wD5 := wD4.own (u := .tup [.int (0 + (i : Int)), .int (0 + (j : Int))]) nt
        have wr5 := wr4.own (u := .tup [.int (0 + (i : Int)), .int (0 + (j : Int))]) nt
        have it : Is (upd G4 t0 (.tup [.int (0 + (i : Int)), .int (0 + (j : Int))])) (.ref t0) (⟨i, j⟩ : PI) := ⟨t0, _, _, rfl, upd_same, by show V.int (0 + (i : Int)) = V.int i; rw [Int.zero_add], by show V.int (0 + (j : Int)) = V.int j; rw [Int.zero_add]⟩
        generalize upd G4 t0 (.tup [.int (0 + (i : Int)), .int (0 + (j : Int))]) = G5 at g5 hl5 wD5 wr5 it
        refine ⟨_, rfl, in_dat (d := (⟨i, j⟩ : PI)) (ds := En) it ((hu.up sF3).up g5.fh) (.inr ⟨_, rfl, ?_⟩)⟩
        obtain ⟨xv, hxv, hxe⟩ : ∃ xv : V, atI [V.ref q0, ev] (if decide ((⟨i, j⟩ : PI) ∈ En) = true then 1 else 0) = some xv ∧ Is F3 xv (if (⟨i, j⟩ : PI) ∈ En then e else .emp) := by
          by_cases z : (⟨i, j⟩ : PI) ∈ En
          · rw [if_pos (decide_eq_true z), if_pos z]; exact ⟨ev, rfl, he3⟩
          · rw [if_neg (by rw [decide_eq_false z]; decide), if_neg z]; exact ⟨.ref q0, rfl, i0⟩
        refine ⟨l, _, _, _, rfl, rfl, SqL.of hl5, hxv, r, _, _, rfl, rfl, wr5.h, lt_size (by rw [aly.1, lnw]; omega), ?_⟩
        refine ⟨F3, ys ++ [xv], nw ++ [_], _, rfl, g5.set wr5.f (.inl wr5.n), s13, wD5.other Dr, wr5.set, aly3.app (All2.one hxe), by rw [List.length_append, lnw]; rfl, fun k e' hk hk' => ?_⟩
        rcases Nat.lt_succ_iff_lt_or_eq.mp hk with hk | rfl
        · rw [List.getElem?_append_left (by omega)]
          exact hnw k e' hk hk'
        · rw [hrj] at hk'
          cases hk'
          rw [List.getElem?_append_right (by omega), lnw, Nat.sub_self]; rfl
      · rintro σ G3 ⟨F2, ys, nw, v5, rfl, g3, s2, wD, wr, aly, lnw, hnw⟩
        have g4 := g3.frz wr.h wr.n wr.f
        have s4 : Same F2 (upd F2 r (.lst ys)) := sm_new (Same.refl F2) wr.f
        have wD4 : Ow H (upd F2 r (.lst ys)) G3 D (.lst xs) := ⟨wD.n, by rw [upd_ne Dr]; exact wD.f, wD.h⟩
        refine ⟨_, rfl, .inl ⟨rfl, _, SqL.of wD.h⟩, _, rfl, D, _, _, rfl, rfl, wD.h, lt_size (by rw [al.1, lN]; omega), ?_⟩
        refine ⟨_, xs ++ [.ref r], N ++ [nw], _, _, _, rfl, g4.set wD4.f (.inl wD4.n), wD4.set, (IsAll.up (IsAll.up al s2) s4).app (All2.one ⟨r, ys, rfl, upd_same, IsAll.up aly s4⟩), by rw [List.length_append, lN]; rfl, fun k row' hk hk' => ?_⟩
        rcases Nat.lt_succ_iff_lt_or_eq.mp hk with hk | rfl
        · obtain ⟨r', h1, h2⟩ := hN k row' hk hk'
          exact ⟨r', by rw [List.getElem?_append_left (by omega)]; exact h1, h2⟩
        · rw [hMi] at hk'
          cases hk'
          have lw : nw.length = row.length := by rw [lnw]; omega
          refine ⟨nw, by rw [List.getElem?_append_right (by omega), lN, Nat.sub_self]; rfl, lw, fun j e hj => hnw j e ?_ hj⟩
          have := (List.getElem?_eq_some_iff.mp hj).1
          omega
    · rintro σ G ⟨F1, xs, N, v3, v4, v5, rfl, g, w, al, lN, hN⟩
      have g4 := g.frz w.h w.n w.f
      have s4 : Same F1 (upd F1 D (.lst xs)) := sm_new (Same.refl F1) w.f
      have lM := hM.len
      refine ⟨_, rfl, q _ _ (.ref D) N g4 ⟨D, xs, rfl, upd_same, IsAll.up al s4⟩ ⟨by omega, fun k row hk => hN k row ?_ hk⟩⟩
      have := (List.getElem?_eq_some_iff.mp hk).1
      omega
theorem ints_is {H : Hp} (ns : List Int) : IsAll H (ns.map V.int) ns := by
  refine ⟨by rw [List.length_map], fun i x y h1 h2 => ?_⟩
  rw [List.getElem?_map, h2] at h1
  exact (Option.some.inj h1).symm
theorem perm_sum {l m : List Int} (h : l.Perm m) : l.sum = m.sum := by
  induction h with
  | nil => rfl
  | cons x _ ih => rw [List.sum_cons, List.sum_cons, ih]
  | swap x y l => rw [List.sum_cons, List.sum_cons, List.sum_cons, List.sum_cons]; omega
  | trans _ _ h1 h2 => exact h1.trans h2
def sp_L_places : Sp := fun vs H Q _ => ∃ (F : Hp) (m : V) (M : Mach) (R S n k : Nat) (c : Cfg), vs = [m, .int n, .int k] ∧ Same F H ∧ Is F m M ∧ MOk M R S ∧ n ≤ 5000 ∧ Gone M n k c ∧
  ∀ (F' H' : Hp), Gr mu0 F H F' H' → Q (.bl true) H'
theorem ok_L_places (t : Tx K mg) : FnOk P w K mg base CX0 5 t.a_L_places t.fd_L_places ["_law_machine_here", "_law_most", "_law_far"] sp_L_places := by
  refine t.F_L_places.ok sc_L_places (fun vs H Q E h => ?_) (fun cdv A outer s H vs Q E hr h => ?_)
  · obtain ⟨F, m, M, R, S, n, k, c, rfl, _⟩ := h
    rfl
  · obtain ⟨F, m, M, R, S, n, k, c, rfl, sF, hm, hM, hn, go, q⟩ := h
    refine ⟨_, (pss_cons (ps_set (i := 3) sc_L_places.nd rfl (by first | exact Or.inl rfl | exact Or.inr rfl) (pe_call (ok_visits t) (hr.mono (by decide)) (by rfl) t.m_visits t.F_visits.kp t.b_visits .nil pass0 (pa_cons (pv 0) (pa_cons (pv 1) pa_nil))))
      (pss_cons (ps_set (i := 4) sc_L_places.nd rfl (by first | exact Or.inl rfl | exact Or.inr rfl) (pe_call (ok_records t) (hr.mono (by decide)) (by rfl) t.m_records t.F_records.kp t.b_records .nil pass0 (pa_cons (pv 0) (pa_cons (pv 1) pa_nil))))
      (pss_cons (ps_set (i := 5) sc_L_places.nd rfl (by first | exact Or.inl rfl | exact Or.inr rfl) (pe_call (ok_touched t) (hr.mono (by decide)) (by rfl) t.m_touched t.F_touched.kp t.b_touched .nil pass0 (pa_cons (pv 0) (pa_cons (pv 1) pa_nil))))
      (pss_cons (ps_if (pt_cmpR (op_neD hr.units) (pe_lc (own := [("_law_place", 6), ("_law_count", 7)]) (tt := tYes) rfl sc_L_places.nd (pi_list (pv 3)) (blkOk_by (N := N_L_places) (sc := defScope s_L_places) (by decide +kernel)) (fun _ _ _ _ _ => (pg_tupK (K := K) (n := 2) rfl rfl (pgs_cons (pg_name (i := 6) sc_L_places.nd rfl (by first | exact Or.inl rfl | exact Or.inr rfl)) (pgs_cons (pg_name (i := 7) sc_L_places.nd rfl (by first | exact Or.inl rfl | exact Or.inr rfl)) pgs_nil)))) (fun _ _ _ _ _ => pts_nil) (fun _ _ _ _ _ => (pv 6))) (pe_listRg rfl (by rfl) t.n_list (prg_2 (by rfl) t.n_range (pe_ix ix_tup (pv 5) pe_int (fun _ _ => rfl)) (pe_op op_add (pe_ix ix_tup (pv 5) pe_int (fun _ _ => rfl)) pe_int))) (nomark _)) (pss_one (ps_ret pe_bl)) pss_nil)
      (pss_cons (ps_if (PW.pt (pw_or (pt_cmpR op_ne (pe_callB (id := "sum") (cr_sum rfl) (by rfl) t.n_sum (by decide +kernel) (pa_cons (pe_lc (own := [("_law_place", 6), ("_law_count", 7)]) (tt := tYes) rfl sc_L_places.nd (pi_list (pv 3)) (blkOk_by (N := N_L_places) (sc := defScope s_L_places) (by decide +kernel)) (fun _ _ _ _ _ => (pg_tupK (K := K) (n := 2) rfl rfl (pgs_cons (pg_name (i := 6) sc_L_places.nd rfl (by first | exact Or.inl rfl | exact Or.inr rfl)) (pgs_cons (pg_name (i := 7) sc_L_places.nd rfl (by first | exact Or.inl rfl | exact Or.inr rfl)) pgs_nil)))) (fun _ _ _ _ _ => pts_nil) (fun _ _ _ _ _ => (pv 7))) pa_nil)) (pe_op op_add (pv 2) pe_int) (nomark _)) (pw_or1 (pt_cmpR op_lt (pe_callB (id := "min") (cr_min rfl) (by rfl) t.n_min (by decide +kernel) (pa_cons (pe_lc (own := [("_law_place", 6), ("_law_count", 7)]) (tt := tYes) rfl sc_L_places.nd (pi_list (pv 3)) (blkOk_by (N := N_L_places) (sc := defScope s_L_places) (by decide +kernel)) (fun _ _ _ _ _ => (pg_tupK (K := K) (n := 2) rfl rfl (pgs_cons (pg_name (i := 6) sc_L_places.nd rfl (by first | exact Or.inl rfl | exact Or.inr rfl)) (pgs_cons (pg_name (i := 7) sc_L_places.nd rfl (by first | exact Or.inl rfl | exact Or.inr rfl)) pgs_nil)))) (fun _ _ _ _ _ => pts_nil) (fun _ _ _ _ _ => (pv 7))) pa_nil)) pe_int (nomark _))))) (pss_one (ps_ret pe_bl)) pss_nil)
      (pss_cons (ps_setLc (i := 8) (own := [("_law_moment", 9), ("_law_place", 6)]) (tt := tYes) rfl sc_L_places.nd rfl rfl (sw_true rfl rfl rfl (by decide +kernel)) (pi_list (pv 4)) (blkOk_by (N := N_L_places) (sc := defScope s_L_places) (by decide +kernel)) (fun _ _ _ _ _ => (pg_tupK (K := K) (n := 2) rfl rfl (pgs_cons (pg_name (i := 9) sc_L_places.nd rfl (by first | exact Or.inl rfl | exact Or.inr rfl)) (pgs_cons (pg_name (i := 6) sc_L_places.nd rfl (by first | exact Or.inl rfl | exact Or.inr rfl)) pgs_nil)))) (fun _ _ _ _ _ => pts_nil) (fun _ _ _ _ _ => (pv 6)))
      (pss_one (ps_ret (pe_and (pe_cmpR (op_eqD hr.units) (pe_tup (pa_cons (pe_callB (id := "min") (cr_min rfl) (by rfl) t.n_min (by decide +kernel) (pa_cons (pv 8) pa_nil)) (pa_cons (pe_callB (id := "max") (cr_max rfl) (by rfl) t.n_max (by decide +kernel) (pa_cons (pv 8) pa_nil)) pa_nil))) (pv 5) (by rfl)) (pe_one (pe_cmpR op_eq (pe_callB (id := "len") call_lenQ (by rfl) t.n_len (by decide +kernel) (pa_cons (pv 8) pa_nil)) (pe_op op_add (pe_op op_sub (pe_ix ix_tup (pv 5) pe_int (fun _ _ => rfl)) (pe_ix ix_tup (pv 5) pe_int (fun _ _ => rfl))) pe_int) (nomark _)))))))))))), ?_⟩
    -- counts, some, ends
    refine ⟨_, rfl, _, rfl, F, m, M, R, S, n, rfl, sF, hm, hM, hn, fun F1 H1 D1 xs1 cs k1 c1 g1 go1 hh w1 al1 => ?_⟩
    obtain ⟨rfl, rfl⟩ := go.uniq go1
    have g1z := g1.frz w1.h w1.n w1.f
    have s1 : Same F1 (upd F1 D1 (.lst xs1)) := sm_new (Same.refl F1) w1.f
    have h1 : (upd F1 D1 (.lst xs1)) D1 = some (.lst xs1) := upd_same
    have al1 := IsAll.up al1 s1
    generalize upd F1 D1 (.lst xs1) = Fa at g1z h1 al1
    refine ⟨_, rfl, _, rfl, Fa, m, M, R, S, n, rfl, g1z.fh, hm.up g1z.ff, hM, hn, fun F2 H2 D2 xs2 cs2 k2 c2 g2 go2 hh2 w2 al2 => ?_⟩
    obtain ⟨rfl, rfl⟩ := go.uniq go2
    obtain rfl := hh.uniq hh2
    have g2z := g2.frz w2.h w2.n w2.f
    have s2 : Same F2 (upd F2 D2 (.lst xs2)) := sm_new (Same.refl F2) w2.f
    have h2 : (upd F2 D2 (.lst xs2)) D2 = some (.lst xs2) := upd_same
    have al2 := IsAll.up al2 s2
    generalize upd F2 D2 (.lst xs2) = Fb at g2z h2 al2
    have g12 := g1z.trans g2z
    refine ⟨_, rfl, _, rfl, Fb, m, M, R, S, n, rfl, g2z.fh, hm.up g12.ff, hM, hn, fun F3 H3 u lo hi cs3 k3 c3 g3 go3 hh3 il ih hu => ?_⟩
    obtain ⟨rfl, rfl⟩ := go.uniq go3
    obtain rfl := hh.uniq hh3
    have g13 := g12.trans g3
    have h1 := g3.ff _ _ (g2z.ff _ _ h1)
    have h2 := g3.ff _ _ h2
    have al1 := IsAll.up (IsAll.up al1 g2z.ff) g3.ff
    have al2 := IsAll.up al2 g3.ff
    obtain ⟨lo', hi', sp⟩ := spread hM hh
    obtain rfl := il.uniq sp.il
    obtain rfl := ih.uniq sp.ih
    obtain ⟨tu, ux, uy, e0, hu3, hux, huy⟩ := id hu
    cases e0
    have hux : ux = V.int lo := hux
    have huy : uy = V.int hi := huy
    subst hux huy
    have lcs := hh.1
    have gle := go.le
    obtain ⟨cn, clen, ck⟩ := cnt_facts cs
    have lsr : (srt (cnt cs)).length = (cnt cs).length := (srt_perm _).length_eq
    have lrec := recs_len cs
    have lx1 : xs1.length = (srt (cnt cs)).length := al1.1
    have h0 : cs[0]? = some c0 := by
      have e : cs[0]? = some _ := List.getElem?_eq_getElem (by omega)
      have := hh.2 _ _ e
      rw [e]; exact this.symm
    have m0 : (0 : Int) ∈ cs.map (·.s) := List.mem_map.mpr ⟨c0, List.mem_of_getElem? h0, rfl⟩
    have b1 := sp.il.2 0 m0
    have b2 := sp.ih.2 0 m0
    have rn := sp.rn
    have hD1 := g3.fh _ _ h1
    have hD2 := g3.fh _ _ h2
    -- [place for place, count in counts] != list(range(lo, hi + 1))
    refine ⟨_, rfl, ?_⟩
    refine ⟨D1, rfl, ⟨_, SqL.of hD1⟩, fun Z1 nZ1 => lc_list (K := K) (a := D1) (xs := xs1) (fun i G => Gr mu0 F3 H3 F3 G ∧ Ow H3 F3 G Z1 (.lst ((((srt (cnt cs)).take i).map (·.a)).map V.int)))
      ⟨(Gr.refl g3.fh).own nZ1, Ow.mk1 (Gr.refl (mu := mu0) g3.fh) nZ1⟩ (fun i G _ ⟨g, _⟩ => SqL.of (g.fr _ _ hD1 fun z => z)) ?_ ?_⟩
    · rintro i y G hi ⟨g, w⟩
      obtain ⟨q, hq, ty, yx, yy, rfl, hty, hx, hy⟩ := al1.get' hi
      have hx : yx = V.int q.a := hx
      have hy : yy = V.int q.b := hy
      subst hx hy
      refine ⟨ty, _, rfl, SqT.of (g.fh _ _ hty), rfl, _, _, rfl, _, _, rfl, rfl, rfl, yes ⟨_, rfl, _, w.h, lt_size (by rw [List.length_map, List.length_map, List.length_take]; have := lsr; omega), g.set w.f (.inl w.n), ?_⟩⟩
      have e : ((((srt (cnt cs)).take (i + 1)).map (·.a)).map V.int) = ((((srt (cnt cs)).take i).map (·.a)).map V.int) ++ [V.int q.a] := by
        rw [List.take_add_one, hq, List.map_append, List.map_append]; rfl
      rw [e]
      exact w.set
    rintro G1 ⟨gz1, wz1⟩
    rw [lx1, List.take_length, keys_rng sp] at wz1
    have hu1 := gz1.fh _ _ hu3
    refine ⟨_, rfl, u, _, _, _, rfl, rfl, SqT.of hu1, atI_nat (j := 0) rfl, _, rfl, u, _, _, _, rfl, rfl, SqT.of hu1, atI_nat (j := 1) rfl, _, _, rfl, rfl, _, _, rfl, rfl, ⟨by omega, by omega, by omega, by omega, by omega⟩, fun Z2 nZ2 => ?_⟩
    have gz2 := gz1.own (o := .lst (rgV lo (hi + 1))) nZ2
    have e1 : rgV lo (hi + 1) = ((List.range (hi + 1 - lo).toNat).map fun i : Nat => lo + (i : Int)).map V.int := by
      unfold rgV
      rw [List.map_map]; rfl
    have i1 : Is (upd G1 Z2 (.lst (rgV lo (hi + 1)))) (.ref Z1) ((List.range (hi + 1 - lo).toNat).map fun i : Nat => lo + (i : Int)) := ⟨Z1, _, rfl, ln nZ2 wz1.h, ints_is _⟩
    have i2 : Is (upd G1 Z2 (.lst (rgV lo (hi + 1)))) (.ref Z2) ((List.range (hi + 1 - lo).toNat).map fun i : Nat => lo + (i : Int)) := ⟨Z2, _, rfl, upd_same, by rw [e1]; exact ints_is _⟩
    refine ne_dat i1 i2 ⟨_, rfl, ifF (by rw [decide_eq_true rfl]; rfl) ?_⟩
    generalize upd G1 Z2 (.lst (rgV lo (hi + 1))) = G2 at gz2
    have hD1' := gz2.fr _ _ hD1 fun z => z
    -- sum of the counts
    refine ⟨_, rfl, ?_⟩
    refine ⟨D1, rfl, ⟨_, SqL.of hD1'⟩, fun Z3 nZ3 => lc_list (K := K) (a := D1) (xs := xs1) (fun i G => Gr mu0 F3 G2 F3 G ∧ Ow G2 F3 G Z3 (.lst ((((srt (cnt cs)).take i).map (·.b)).map V.int)))
      ⟨(Gr.refl gz2.fh).own nZ3, Ow.mk1 (Gr.refl (mu := mu0) gz2.fh) nZ3⟩ (fun i G _ ⟨g, _⟩ => SqL.of (g.fr _ _ hD1' fun z => z)) ?_ ?_⟩
    · rintro i y G hi ⟨g, w⟩
      obtain ⟨q, hq, ty, yx, yy, rfl, hty, hx, hy⟩ := al1.get' hi
      have hx : yx = V.int q.a := hx
      have hy : yy = V.int q.b := hy
      subst hx hy
      refine ⟨ty, _, rfl, SqT.of (g.fh _ _ hty), rfl, _, _, rfl, _, _, rfl, rfl, rfl, yes ⟨_, rfl, _, w.h, lt_size (by rw [List.length_map, List.length_map, List.length_take]; have := lsr; omega), g.set w.f (.inl w.n), ?_⟩⟩
      have e : ((((srt (cnt cs)).take (i + 1)).map (·.b)).map V.int) = ((((srt (cnt cs)).take i).map (·.b)).map V.int) ++ [V.int q.b] := by
        rw [List.take_add_one, hq, List.map_append, List.map_append]; rfl
      rw [e]
      exact w.set
    rintro G3 ⟨gz3, wz3⟩
    rw [lx1, List.take_length] at wz3
    obtain ⟨sum0, one0⟩ := cnt_sum cs
    have esum : ((srt (cnt cs)).map (·.b)).sum = (k : Int) + 1 := by
      rw [perm_sum ((srt_perm (cnt cs)).map fun p : PI => p.b)]
      refine sum0.trans ?_
      omega
    refine ⟨Z3, _, rfl, SqL.of wz3.h, _, rfl, _, _, rfl, rfl, rfl, _, rfl, ifF (by rw [esum, decide_eq_true rfl]; rfl) ?_⟩
    have g23 := gz2.trans gz3
    have hD13 := g23.fr _ _ hD1 fun z => z
    -- the least count
    refine ⟨_, rfl, ?_⟩
    refine ⟨D1, rfl, ⟨_, SqL.of hD13⟩, fun Z4 nZ4 => lc_list (K := K) (a := D1) (xs := xs1) (fun i G => Gr mu0 F3 G3 F3 G ∧ Ow G3 F3 G Z4 (.lst ((((srt (cnt cs)).take i).map (·.b)).map V.int)))
      ⟨(Gr.refl gz3.fh).own nZ4, Ow.mk1 (Gr.refl (mu := mu0) gz3.fh) nZ4⟩ (fun i G _ ⟨g, _⟩ => SqL.of (g.fr _ _ hD13 fun z => z)) ?_ ?_⟩
    · rintro i y G hi ⟨g, w⟩
      obtain ⟨q, hq, ty, yx, yy, rfl, hty, hx, hy⟩ := al1.get' hi
      have hx : yx = V.int q.a := hx
      have hy : yy = V.int q.b := hy
      subst hx hy
      refine ⟨ty, _, rfl, SqT.of (g.fh _ _ hty), rfl, _, _, rfl, _, _, rfl, rfl, rfl, yes ⟨_, rfl, _, w.h, lt_size (by rw [List.length_map, List.length_map, List.length_take]; have := lsr; omega), g.set w.f (.inl w.n), ?_⟩⟩
      have e : ((((srt (cnt cs)).take (i + 1)).map (·.b)).map V.int) = ((((srt (cnt cs)).take i).map (·.b)).map V.int) ++ [V.int q.b] := by
        rw [List.take_add_one, hq, List.map_append, List.map_append]; rfl
      rw [e]
      exact w.set
    rintro G4 ⟨gz4, wz4⟩
    rw [lx1, List.take_length] at wz4
    have ne : 0 < (srt (cnt cs)).length := by
      rw [lsr]
      have z := (ck 0).mpr m0
      obtain ⟨p, mp, _⟩ := List.mem_map.mp z
      exact List.length_pos_of_mem mp
    refine ⟨Z4, _, rfl, SqL.of wz4.h, by rw [List.length_map]; exact ne, fun mn mm _ => ?_⟩
    have mn1 : 1 ≤ mn := by
      obtain ⟨p, mp, rfl⟩ := List.mem_map.mp mm
      exact one0 p ((srt_perm _).mem_iff.mp mp)
    refine ⟨_, _, rfl, rfl, _, rfl, ifF (decide_eq_false (by omega)) ?_⟩
    have g24 := g23.trans gz4
    have hD24 := g24.fr _ _ hD2 fun z => z
    have lx2 : xs2.length = (recs cs).length := al2.1
    -- the places of the records
    refine ⟨_, rfl, ?_⟩
    refine ⟨D2, rfl, ⟨_, SqL.of hD24⟩, fun Z5 nZ5 => lc_list (K := K) (a := D2) (xs := xs2) (fun i G => Gr mu0 F3 G4 F3 G ∧ Ow G4 F3 G Z5 (.lst ((((recs cs).take i).map (·.b)).map V.int)))
      ⟨(Gr.refl gz4.fh).own nZ5, Ow.mk1 (Gr.refl (mu := mu0) gz4.fh) nZ5⟩ (fun i G _ ⟨g, _⟩ => SqL.of (g.fr _ _ hD24 fun z => z)) ?_ ?_⟩
    · rintro i y G hi ⟨g, w⟩
      obtain ⟨q, hq, ty, yx, yy, rfl, hty, hx, hy⟩ := al2.get' hi
      have hx : yx = V.int q.a := hx
      have hy : yy = V.int q.b := hy
      subst hx hy
      refine ⟨ty, _, rfl, SqT.of (g.fh _ _ hty), rfl, _, _, rfl, _, _, rfl, rfl, rfl, yes ⟨_, rfl, _, w.h, lt_size (by rw [List.length_map, List.length_map, List.length_take]; have := lrec; omega), g.set w.f (.inl w.n), ?_⟩⟩
      have e : ((((recs cs).take (i + 1)).map (·.b)).map V.int) = ((((recs cs).take i).map (·.b)).map V.int) ++ [V.int q.b] := by
        rw [List.take_add_one, hq, List.map_append, List.map_append]; rfl
      rw [e]
      exact w.set
    rintro G5 ⟨gz5, wz5⟩
    rw [lx2, List.take_length] at wz5
    have g25 := g24.trans gz5
    have lr : 0 < ((recs cs).map (·.b)).length := by rw [List.length_map]; omega
    refine ⟨_, rfl, Z5, _, rfl, SqL.of wz5.h, lr, fun mn m1 m2 => ?_⟩
    refine ⟨_, rfl, Z5, _, rfl, SqL.of wz5.h, lr, fun mx m3 m4 => ⟨two_le, fun t0 nt => ?_⟩⟩
    have emn : mn = lo := by
      obtain ⟨q1, mq, e⟩ := sp.rl
      have a1 := m2 q1.b (List.mem_map.mpr ⟨q1, mq, rfl⟩)
      obtain ⟨q2, mq2, e2⟩ := List.mem_map.mp m1
      have a2 := (sp.rb q2 mq2).1
      omega
    have emx : mx = hi := by
      obtain ⟨q1, mq, e⟩ := sp.rh
      have a1 := m4 q1.b (List.mem_map.mpr ⟨q1, mq, rfl⟩)
      obtain ⟨q2, mq2, e2⟩ := List.mem_map.mp m3
      have a2 := (sp.rb q2 mq2).2
      omega
    subst emn emx
    have g26 := g25.own (o := .tup [.int mn, .int mx]) nt
    have it : Is (upd G5 t0 (.tup [.int mn, .int mx])) (.ref t0) (⟨mn, mx⟩ : PI) := ⟨t0, _, _, rfl, upd_same, rfl, rfl⟩
    have hz5 := ln (u := .tup [.int mn, .int mx]) nt wz5.h
    generalize upd G5 t0 (.tup [.int mn, .int mx]) = G6 at g26 it hz5
    have hu6 := g26.fh _ _ hu3
    refine ⟨_, rfl, eq_dat (a := (⟨mn, mx⟩ : PI)) (b := (⟨mn, mx⟩ : PI)) it (hu.up g26.fh) ⟨_, rfl, ifT (decide_eq_true rfl) ?_⟩⟩
    refine ⟨_, rfl, Z5, _, rfl, .inl (SqL.of hz5), _, rfl, u, _, _, _, rfl, rfl, SqT.of hu6, atI_nat (j := 1) rfl, _, rfl, u, _, _, _, rfl, rfl, SqT.of hu6, atI_nat (j := 0) rfl, _, _, rfl, rfl, _, _, rfl, rfl, rfl, ?_⟩
    have el : decide (V.int ((((recs cs).map (·.b)).map V.int).length : Int) = V.int (mx - mn + 1)) = true := by
      rw [List.length_map, List.length_map, rn]
      exact decide_eq_true rfl
    rw [el]
    exact q F3 _ (g13.trans g26)
theorem met_set {H : Hp} : ∀ {xs : List V} {E : List PI}, IsAll H xs E → ∃ ks : List (Addr × List Int), xs = ks.map (fun p => V.ref p.1) ∧ ks.map (·.2) = E.map (fun q => [q.a, q.b]) ∧ ∀ p ∈ ks, H p.1 = some (.tup (p.2.map V.int))
  | [], [], _ => ⟨[], rfl, rfl, fun p z => nomatch z⟩
  | [], e :: E, h => by have := h.1; simp at this
  | x :: xs, [], h => by have := h.1; simp at this
  | x :: xs, e :: E, h => by
    obtain ⟨ks, h1, h2, h3⟩ := met_set (xs := xs) (E := E) ⟨by have := h.1; simpa using this, fun i a b p q => h.2 (i + 1) a b (by simpa using p) (by simpa using q)⟩
    obtain ⟨t, y, z, rfl, ht, hy, hz⟩ := h.2 0 x e rfl rfl
    have hy : y = V.int e.a := hy
    have hz : z = V.int e.b := hz
    subst hy hz
    refine ⟨(t, [e.a, e.b]) :: ks, by rw [h1]; rfl, by rw [List.map_cons, List.map_cons, h2], fun p m => ?_⟩
    rcases List.mem_cons.mp m with rfl | m
    · exact ht
    · exact h3 p m
theorem pair_nd {E : List PI} (h : E.Nodup) : (E.map (fun q => [q.a, q.b])).Nodup := by
  refine List.pairwise_map.mpr (h.imp fun {a b} ne z => ne ?_)
  obtain ⟨a1, a2⟩ := a; obtain ⟨b1, b2⟩ := b
  injection z with z1 z2
  injection z2 with z2 _
  have z1 : a1 = b1 := z1
  have z2 : a2 = b2 := z2
  rw [z1, z2]
theorem cut_drop {xs : List V} {j : Nat} : cutV xs (some (j : Int)) none = xs.drop j := by
  unfold cutV
  have e2 : HT.sIx xs.length xs.length none = xs.length := rfl
  have e1 : HT.sIx xs.length 0 (some (j : Int)) = min j xs.length := by
    simp only [HT.sIx]
    rw [if_neg (by omega), Int.toNat_natCast]
  rw [e1, e2]
  rcases Nat.le_total j xs.length with h | h
  · rw [Nat.min_eq_left h, ← List.length_drop, List.take_length]
  · rw [Nat.min_eq_right h, Nat.sub_self, List.take_zero, List.drop_eq_nil_iff.mpr h]
theorem scal_opt : ∀ o : Option Nat, scal (optV o) (optV o) = true
  | none => rfl
  | some _ => rfl
def sp_law (K : PySem.W.Frag) : Sp := fun vs H Q _ => ∃ (a : Addr) (ns : List Int), vs = [.ref a] ∧ SqL K H a (ns.map V.int) ∧ ns.length ≤ 63 ∧ ∀ H', Q (.bl true) H'
theorem ok_law (t : Tx K mg) : FnOk P w K mg base CX0 6 t.a_law t.fd_law ["_law_script"] (sp_law K) := by
  refine t.F_law.ok sc_law (fun vs H Q E h => ?_) (fun cdv A outer s H vs Q E hr h => ?_)
  · obtain ⟨a, ns, rfl, _⟩ := h
    rfl
  · obtain ⟨a, ns, rfl, hS, hn, q⟩ := h
    refine ⟨_, (pss_cons (ps_set (i := 1) sc_law.nd rfl (by first | exact Or.inl rfl | exact Or.inr rfl) (pe_call (ok_L_purse t) (hr.mono (by decide)) (by rfl) t.m_L_purse t.F_L_purse.kp t.b_L_purse .nil pass0 (pa_cons (pv 0) pa_nil)))
      (pss_cons (ps_set (i := 2) sc_law.nd rfl (by first | exact Or.inl rfl | exact Or.inr rfl) (pe_call (ok_L_any t) (hr.mono (by decide)) (by rfl) t.m_L_any t.F_L_any.kp t.b_L_any .nil pass0 (pa_cons (pv 1) pa_nil)))
      (pss_cons (ps_set (i := 3) sc_law.nd rfl (by first | exact Or.inl rfl | exact Or.inr rfl) (pe_call (ok_L_draw t) (hr.mono (by decide)) (by rfl) t.m_L_draw t.F_L_draw.kp t.b_L_draw .nil pass0 (pa_cons (pv 1) (pa_cons (pe_ix ix_list (pe_lst (pa_cons pe_int (pa_cons pe_int (pa_cons pe_int (pa_cons pe_int pa_nil))))) (pe_call (ok_L_draw t) (hr.mono (by decide)) (by rfl) t.m_L_draw t.F_L_draw.kp t.b_L_draw .nil pass0 (pa_cons (pv 1) (pa_cons pe_int pa_nil))) (fun _ _ => rfl)) pa_nil))))
      (pss_cons (ps_set (i := 4) sc_law.nd rfl (by first | exact Or.inl rfl | exact Or.inr rfl) (pe_call (ok_met_entries t) (hr.mono (by decide)) (by rfl) t.m_met_entries t.F_met_entries.kp t.b_met_entries .nil pass0 (pa_cons (pv 2) (pa_cons (pv 3) pa_nil))))
      (pss_cons (ps_set (i := 5) sc_law.nd rfl (by first | exact Or.inl rfl | exact Or.inr rfl) (pe_call (ok_run t) (hr.mono (by decide)) (by rfl) t.m_run t.F_run.kp t.b_run .nil pass0 (pa_cons (pv 2) (pa_cons (pv 3) pa_nil))))
      (pss_cons (ps_if (PW.pt (pw_or (pt_not (pt_val (pe_call (ok_L_places t) (hr.mono (by decide)) (by rfl) t.m_L_places t.F_L_places.kp t.b_L_places .nil pass0 (pa_cons (pv 2) (pa_cons (pv 3) (pa_cons (pe_ix ix_tup (pv 5) pe_int (fun _ _ => rfl)) pa_nil)))))) (pw_or1 (pt_cmpR op_lt (pe_callB (id := "len") cr_lenSetT (by rfl) t.n_len (by decide +kernel) (pa_cons (pe_callTy (T := "set") (cr_setOfT rfl hr.units) (by rfl) t.n_set (by decide +kernel) (pa_cons (pv 4) pa_nil)) pa_nil)) (pe_callB (id := "len") call_lenQ (by rfl) t.n_len (by decide +kernel) (pa_cons (pv 4) pa_nil)) (nomark _))))) (pss_one (ps_ret pe_bl)) pss_nil)
      (pss_cons (ps_set (i := 6) sc_law.nd rfl (by first | exact Or.inl rfl | exact Or.inr rfl) (pe_call (ok_L_kept t) (hr.mono (by decide)) (by rfl) t.m_L_kept t.F_L_kept.kp t.b_L_kept .nil pass0 (pa_cons (pv 2) (pa_cons (pv 4) pa_nil))))
      (pss_cons (ps_if (PW.pt (pw_or (pt_cmpR (op_neD hr.units) (pe_call (ok_run t) (hr.mono (by decide)) (by rfl) t.m_run t.F_run.kp t.b_run .nil pass0 (pa_cons (pv 6) (pa_cons (pv 3) pa_nil))) (pv 5) (nomark _)) (pw_or1 (pt_cmpR op_notN (pe_call (ok_parts_from t) (hr.mono (by decide)) (by rfl) t.m_parts_from t.F_parts_from.kp t.b_parts_from .nil pass0 (pa_cons (pv 2) (pa_cons (pv 6) (pa_cons (pv 3) pa_nil)))) pe_non (nomark _))))) (pss_one (ps_ret pe_bl)) pss_nil)
      (pss_cons (ps_if (pt_cmpR (op_neD hr.units) (pe_call (ok_met_entries t) (hr.mono (by decide)) (by rfl) t.m_met_entries t.F_met_entries.kp t.b_met_entries .nil pass0 (pa_cons (pv 6) (pa_cons (pv 3) pa_nil))) (pv 4) (nomark _)) (pss_one (ps_ret pe_bl)) pss_nil)
      (pss_cons (ps_set (i := 7) sc_law.nd rfl (by first | exact Or.inl rfl | exact Or.inr rfl) (pe_call (ok_L_draw t) (hr.mono (by decide)) (by rfl) t.m_L_draw t.F_L_draw.kp t.b_L_draw .nil pass0 (pa_cons (pv 1) (pa_cons (pe_callB (id := "len") call_lenQ (by rfl) t.n_len (by decide +kernel) (pa_cons (pv 4) pa_nil)) pa_nil))))
      (pss_cons (ps_set (i := 8) sc_law.nd rfl (by first | exact Or.inl rfl | exact Or.inr rfl) (pe_call (ok_L_kept t) (hr.mono (by decide)) (by rfl) t.m_L_kept t.F_L_kept.kp t.b_L_kept .nil pass0 (pa_cons (pv 2) (pa_cons (pe_op op_cat (pe_slice sl_list (pv 4) po_none (po_some (pv 7))) (pe_slice sl_list (pv 4) (po_some (pe_op op_add (pv 7) pe_int)) po_none)) pa_nil))))
      (pss_cons (ps_set (i := 9) sc_law.nd rfl (by first | exact Or.inl rfl | exact Or.inr rfl) (pe_call (ok_run t) (hr.mono (by decide)) (by rfl) t.m_run t.F_run.kp t.b_run .nil pass0 (pa_cons (pv 8) (pa_cons (pv 3) pa_nil))))
      (pss_cons (ps_if (PW.pt (pw_or (pt_cmpR op_ne (pe_ix ix_tup (pv 9) pe_int (fun _ _ => rfl)) pe_str (nomark _)) (pw_or1 (pt_cmpR (op_neD hr.units) (pe_call (ok_met_entries t) (hr.mono (by decide)) (by rfl) t.m_met_entries t.F_met_entries.kp t.b_met_entries .nil pass0 (pa_cons (pv 8) (pa_cons (pv 3) pa_nil))) (pe_slice sl_list (pv 4) po_none (po_some (pe_op op_add (pv 7) pe_int))) (nomark _))))) (pss_one (ps_ret pe_bl)) pss_nil)
      (pss_cons (ps_set (i := 10) sc_law.nd rfl (by first | exact Or.inl rfl | exact Or.inr rfl) (pe_or (pe_cmpR (op_eqD hr.units) (pe_ix ix_list (pe_ix ix_list (pv 2) (pe_ix ix_tup (pe_ix ix_list (pv 4) (pv 7) (fun _ _ => rfl)) pe_int (fun _ _ => rfl)) (fun _ _ => rfl)) (pe_ix ix_tup (pe_ix ix_list (pv 4) (pv 7) (fun _ _ => rfl)) pe_int (fun _ _ => rfl)) (fun _ _ => rfl)) (pe_tup pa_nil) (nomark _)) (pe_one (pe_cmpR op_eq (pe_ix ix_tup (pv 9) pe_int (fun _ _ => rfl)) (pv 3) (nomark _)))))
      (pss_one (ps_ret (pe_cmpR op_eq (pe_call (ok_parts_from t) (hr.mono (by decide)) (by rfl) t.m_parts_from t.F_parts_from.kp t.b_parts_from .nil pass0 (pa_cons (pv 2) (pa_cons (pv 8) (pa_cons (pv 3) pa_nil)))) (pe_ix ix_list (pe_lst (pa_cons (pe_op op_add (pe_ix ix_tup (pv 9) pe_int (fun _ _ => rfl)) pe_int) (pa_cons pe_non pa_nil))) (pe_callTy (T := "int") call_int1 (by rfl) t.n_int (by decide +kernel) (pa_cons (pv 10) pa_nil)) (fun _ _ => rfl)) (nomark _)))))))))))))))))), ?_⟩
    refine ⟨_, rfl, a, ns, rfl, hS, hn, fun a0 b0 p H1 ha0 hb0 s1 np hp1 => ?_⟩
    refine ⟨_, rfl, H, p, a0, b0, rfl, s1, np, hp1, ha0, hb0, fun F2 H2 m rs ess M R S a1 b1 g2 hp2 ha1 hb1 hM x => ?_⟩
    obtain ⟨F3, g3, s23, hm, _, on⟩ := x.frz g2
    have fp3 : F3 p = none := g3.pf np hp1
    -- most
    refine ⟨_, rfl, four_le, fun l6 nl6 => ?_⟩
    have g7 := g3.own (o := .lst [.int 61, .int 401, .int 61, .int 1001]) nl6
    have hp7 := ln (u := .lst [.int 61, .int 401, .int 61, .int 1001]) nl6 hp2
    have hl7 : (upd H2 l6 (.lst [.int 61, .int 401, .int 61, .int 1001])) l6 = some (.lst [.int 61, .int 401, .int 61, .int 1001]) := upd_same
    have pl : l6 ≠ p := fun z => by rw [z, hp2] at nl6; cases nl6
    generalize upd H2 l6 (.lst [.int 61, .int 401, .int 61, .int 1001]) = H7 at g7 hp7 hl7
    refine ⟨_, rfl, p, a1, b1, 4, rfl, hp7, ha1, hb1, by decide, by decide, fun d3 a4 b4 d30 d31 ha4 hb4 => ?_⟩
    have g8 := (g7.drw (a := a4) (b := b4) np hp1).1
    obtain ⟨top, htop, ht0, ht1⟩ : ∃ top : Int, atI [V.int 61, V.int 401, V.int 61, V.int 1001] d3 = some (.int top) ∧ 0 < top ∧ top ≤ 1001 := by
      have h : d3 = 0 ∨ d3 = 1 ∨ d3 = 2 ∨ d3 = 3 := by omega
      rcases h with rfl | rfl | rfl | rfl
      · exact ⟨61, rfl, by decide, by decide⟩
      · exact ⟨401, rfl, by decide, by decide⟩
      · exact ⟨61, rfl, by decide, by decide⟩
      · exact ⟨1001, rfl, by decide, by decide⟩
    refine ⟨l6, _, _, _, rfl, rfl, SqL.of ((upd_ne pl).trans hl7), htop, p, a4, b4, top, rfl, upd_same, ha4, hb4, ht0, by omega, fun d4 a5 b5 d40 d41 ha5 hb5 => ?_⟩
    have g9 := (g8.drw (a := a5) (b := b5) np hp1).1
    have hp9 : (upd (upd H7 p (PurseO a4 b4)) p (PurseO a5 b5)) p = some (PurseO a5 b5) := upd_same
    generalize upd (upd H7 p (PurseO a4 b4)) p (PurseO a5 b5) = H9 at g9 hp9
    obtain ⟨n, rfl⟩ : ∃ n : Nat, d4 = (n : Int) := Int.eq_ofNat_of_zero_le d40
    have hn5 : n ≤ 5000 := by omega
    -- entries
    refine ⟨_, rfl, _, rfl, F3, .ref m, M, R, S, n, rfl, g9.fh, hm, hM, hn5, fun Fa Ha D xs cs k c ga go hh wD al => ?_⟩
    have gaz := ga.frz wD.h wD.n wD.f
    have sa : Same Fa (upd Fa D (.lst xs)) := sm_new (Same.refl Fa) wD.f
    have hD : (upd Fa D (.lst xs)) D = some (.lst xs) := upd_same
    have al := IsAll.up al sa
    generalize upd Fa D (.lst xs) = Fb at gaz hD al
    have hmb := hm.up gaz.ff
    have gle := go.le
    have lcs := hh.1
    have few := met_few hM hh
    have mnd := met_nd cs
    -- found
    refine ⟨_, rfl, _, rfl, Fb, .ref m, M, R, S, n, rfl, gaz.fh, hmb, hM, hn5, fun Fc Hc l u v ys k1 c1 gc go1 wl aly wu wv => ?_⟩
    obtain ⟨rfl, rfl⟩ := go.uniq go1
    obtain ⟨Fd, gd, sd, hfound⟩ := run_frz gc wl aly wu wv
    have hv1 := wv.h
    have ek : (dueOf M n k c).b = (k : Int) := by
      unfold dueOf
      by_cases e : entOf M c = Ent.emp
      · rw [if_pos e]
      · rw [if_neg e]
        show (n : Int) = k
        have := go.fin.resolve_left (fun z => e (stepC_none.mp z))
        omega
    rw [ek] at hv1
    have gbd := gaz.trans gd
    have hmd := hmb.up gd.ff
    have hDd := gd.ff _ _ hD
    have ald := IsAll.up al gd.ff
    -- places
    refine ⟨_, rfl, _, rfl, _, rfl, v, _, _, _, rfl, rfl, SqT.of hv1, atI_nat (j := 1) rfl, Fd, .ref m, M, R, S, n, k, c, rfl, gd.fh, hmd, hM, hn5, go, fun Fe He ge => ⟨_, rfl, ifF rfl ?_⟩⟩
    have gbe := gbd.trans ge
    have hDe := ge.ff _ _ hDd
    have ale := IsAll.up ald ge.ff
    have hme := hmd.up ge.ff
    have hfe := hfound.up ge.ff
    -- len(set(entries)) < len(entries)
    obtain ⟨ks, ek1, ek2, ek3⟩ := met_set (IsAll.up ale ge.fh)
    have lks : ks.length = (met cs).length := by
      have z := congrArg List.length ek2
      rw [List.length_map, List.length_map] at z
      exact z
    refine ⟨_, rfl, D, ks, rfl, by rw [← ek1]; exact SqL.of (ge.fh _ _ hDe), fun p m => SqT.of (ek3 p m), by omega, fun st L nst hL hK => ?_⟩
    have gst := gbe.own (o := SetTO P w st L) nst
    have hDs := ln (u := SetTO P w st L) nst (ge.fh _ _ hDe)
    refine ⟨st, L, rfl, upd_same, fun p m => SqT.of (ln nst (ek3 p (hL p m))), _, rfl, D, xs, rfl, .inl (SqL.of hDs), _, _, rfl, rfl, _, rfl, ifF (decide_eq_false ?_) ?_⟩
    · have lx : xs.length = (met cs).length := ale.1
      have lL : (met cs).length ≤ L.length := by
        have nd := pair_nd mnd
        rw [← ek2] at nd
        have z := nd_len nd (m := L.map (·.2)) fun y my => by
          obtain ⟨p, mp, rfl⟩ := List.mem_map.mp my
          exact hK p mp
        rw [List.length_map, List.length_map] at z
        omega
      omega
    -- less_one
    have isE : Is Fe (.ref D) (met cs) := ⟨D, xs, rfl, hDe, ale⟩
    refine ⟨_, rfl, _, rfl, Fe, .ref m, .ref D, M, R, S, met cs, rfl, gst.fh, hme, hM, isE, fun Fg Hg v2 N gg hN kp => ?_⟩
    have hNok := kp.ok hM
    obtain ⟨goN, hhN, eN, poN⟩ := keeps_all hM kp go hh
    -- run(less_one, most) != found
    refine ⟨_, rfl, _, rfl, Fg, v2, N, R, S, n, rfl, gg.fh, hN, hNok, hn5, fun Fh Hh l2 u2 w2 ys2 k2 c2 gh go2 wl2 al2 wu2 wv2 => ?_⟩
    obtain ⟨rfl, rfl⟩ := goN.uniq go2
    have is2 := run_is (n := n) (M := N) (k := k) (c := c) gh.fh wl2.h al2 wu2.h wv2.h
    have ed : dueOf N n k c = dueOf M n k c := by unfold dueOf; rw [eN]
    rw [ed] at is2
    refine ⟨_, rfl, ne_dat (a := dueOf M n k c) (b := dueOf M n k c) is2 (((hfe.up gg.ff).up gh.ff).up gh.fh) ⟨_, rfl, ifF (by rw [decide_eq_true rfl]; rfl) ?_⟩⟩
    have ggh := gg.trans gh
    -- parts_from(machine, less_one, most) is not None
    refine ⟨_, rfl, _, rfl, _, rfl, Fh, .ref m, v2, M, N, R, S, R, S, n, rfl, gh.fh, hme.up ggh.ff, hM, hN.up gh.ff, hNok, hn5, fun Fi Hi o gi po => ?_⟩
    obtain rfl := poN.uniq po
    refine ⟨rfl, _, rfl, ifF (by show (!decide (V.non = V.non)) = false; rw [decide_eq_true rfl]; rfl) ?_⟩
    have ggi := ggh.trans gi
    -- met_entries(less_one, most) != entries
    refine ⟨_, rfl, _, rfl, Fi, v2, N, R, S, n, rfl, gi.fh, (hN.up gh.ff).up gi.ff, hNok, hn5, fun Fj Hj D2 xs2 cs2 k3 c3 gj go3 hh3 w3 al3 => ?_⟩
    obtain ⟨rfl, rfl⟩ := goN.uniq go3
    obtain rfl := hhN.uniq hh3
    have ggj := ggi.trans gj
    refine ⟨_, rfl, ne_dat (a := met cs) (b := met cs) ⟨D2, xs2, rfl, w3.h, IsAll.up al3 gj.fh⟩ ((isE.up ggj.ff).up ggj.fh) ⟨_, rfl, ifF (by rw [decide_eq_true rfl]; rfl) ?_⟩⟩
    -- at
    have g1j : Gr (muP p) H H1 Fj Hj := g9.trans ((gst.trans ggj).weak (mu' := muP p) fun c z => z.elim)
    have hpj := (gst.trans ggj).fr _ _ hp9 fun z => z
    have hDj := ggj.ff _ _ hDe
    have alj := IsAll.up ale ggj.ff
    have hmj := hme.up ggj.ff
    have hfj := hfe.up ggj.ff
    have lx : xs.length = (met cs).length := ale.1
    have pos : 0 < (met cs).length := by
      have e : cs[0]? = some _ := List.getElem?_eq_getElem (by omega)
      exact List.length_pos_of_mem (met_mem.mpr ⟨_, List.mem_of_getElem? e, rfl⟩)
    refine ⟨_, rfl, _, rfl, D, xs, rfl, .inl (SqL.of (gj.fh _ _ hDj)), p, a5, b5, (xs.length : Int), rfl, hpj, ha5, hb5, by omega, by omega, fun d7 a8 b8 d70 d71 ha8 hb8 => ?_⟩
    have gk := (g1j.drw (a := a8) (b := b8) np hp1).1
    generalize upd Hj p (PurseO a8 b8) = Hk at gk
    obtain ⟨at', rfl⟩ : ∃ at' : Nat, d7 = (at' : Int) := Int.eq_ofNat_of_zero_le d70
    have atl : at' < (met cs).length := by omega
    have hat : (met cs)[at']? = some _ := List.getElem?_eq_getElem atl
    obtain ⟨j, d, hd, hde, hfirst, hmet⟩ := met_first hat
    have lj := (List.getElem?_eq_some_iff.mp hd).1
    have std := hh.2 _ _ hd
    obtain ⟨okd, lld⟩ := stepsC_ok hM std
    have wm := without_mem mnd hat
    -- entries[:at] + entries[at + 1:]
    have hDk := SqL.of (K := K) (gk.fh _ _ hDj)
    refine ⟨_, rfl, _, rfl, _, rfl, _, rfl, D, xs, rfl, hDk, fun p1 np1 => ?_⟩
    rw [cut_take]
    have gl := gk.own (o := .lst (xs.take at')) np1
    have hq1 : (upd Hk p1 (.lst (xs.take at'))) p1 = some (.lst (xs.take at')) := upd_same
    generalize upd Hk p1 (.lst (xs.take at')) = Hl at gl hq1
    refine ⟨_, rfl, _, rfl, _, _, rfl, rfl, _, rfl, D, xs, rfl, SqL.of (gl.fh _ _ hDj), fun p2 np2 => ?_⟩
    have ecd : cutV xs (some ((at' : Int) + 1)) none = xs.drop (at' + 1) := cut_drop (j := at' + 1)
    rw [ecd]
    have gm := gl.own (o := .lst (xs.drop (at' + 1))) np2
    have hq2 := ln (u := .lst (xs.drop (at' + 1))) np2 hq1
    have hq3 : (upd Hl p2 (.lst (xs.drop (at' + 1)))) p2 = some (.lst (xs.drop (at' + 1))) := upd_same
    generalize upd Hl p2 (.lst (xs.drop (at' + 1))) = Hm at gm hq2 hq3
    refine ⟨p1, p2, _, _, rfl, rfl, hq2, hq3, le_size (by rw [List.length_take, List.length_drop]; omega), fun p3 np3 => ?_⟩
    have gn := gm.new (o := .lst (xs.take at' ++ xs.drop (at' + 1))) np3
    have sn : Same Fj (upd Fj p3 (.lst (xs.take at' ++ xs.drop (at' + 1)))) := sm_new (Same.refl Fj) (gm.fh.free np3)
    have isW : Is (upd Fj p3 (.lst (xs.take at' ++ xs.drop (at' + 1)))) (.ref p3) ((met cs).take at' ++ (met cs).drop (at' + 1)) := ⟨p3, _, rfl, upd_same, IsAll.up ((alj.take at').app (alj.drop (at' + 1))) sn⟩
    have hmn := hmj.up sn
    have hDn := sn _ _ hDj
    have aln := IsAll.up alj sn
    generalize upd Fj p3 (.lst (xs.take at' ++ xs.drop (at' + 1))) = Fn at gn isW hmn hDn aln
    generalize upd Hm p3 (.lst (xs.take at' ++ xs.drop (at' + 1))) = Hn at gn
    -- without
    refine ⟨Fn, .ref m, .ref p3, M, R, S, _, rfl, gn.fh, hmn, hM, isW, fun Fo Ho v3 N2 go' hN2 kp2 => ?_⟩
    have hN2ok := kp2.ok hM
    rw [← hde] at wm
    obtain ⟨goW, hhW, eW, poW⟩ := keeps_less hM kp2 go hh hd wm (fun i b il hb z => hfirst i b il hb (z.trans hde))
    -- told = run(without, most)
    refine ⟨_, rfl, _, rfl, Fo, v3, N2, R, S, n, rfl, go'.fh, hN2, hN2ok, hn5, fun Fp Hp' l4 u4 w4 ys4 k4 c4 gp go4 wl4 al4 wu4 wv4 => ?_⟩
    obtain ⟨rfl, rfl⟩ := goW.uniq go4
    have edW : dueOf N2 n j d = ⟨tEnds, j, d.r, d.s, told d.l⟩ := by unfold dueOf; rw [if_pos eW]
    have hw4 := wv4
    rw [edW] at hw4
    have hw4 : Ow Ho Fp Hp' w4 (.tup [.str tEnds.x, .int (j : Int), .ref u4]) := hw4
    have gop := go'.trans gp
    refine ⟨_, rfl, w4, _, _, _, rfl, rfl, SqT.of hw4.h, atI_nat (j := 0) rfl, rfl, _, rfl, ifF (by show (!decide (V.str tEnds.x = V.str tEnds.x)) = false; rw [decide_eq_true rfl]; rfl) ?_⟩
    -- met_entries(without, most) != entries[:at + 1]
    refine ⟨_, rfl, _, rfl, Fp, v3, N2, R, S, n, rfl, gp.fh, hN2.up gp.ff, hN2ok, hn5, fun Fq Hq D4 xs4 cs4 k5 c5 gq go5 hh5 w5 al5 => ?_⟩
    obtain ⟨rfl, rfl⟩ := goW.uniq go5
    obtain rfl := hhW.uniq hh5
    have goq := gop.trans gq
    have hDq := goq.ff _ _ hDn
    have alq := IsAll.up aln goq.ff
    have hw5 := hw4.call gq fun z => z
    refine ⟨_, rfl, _, rfl, _, _, rfl, rfl, _, rfl, D, xs, rfl, SqL.of (gq.fh _ _ hDq), fun p5 np5 => ?_⟩
    have ect : cutV xs none (some ((at' : Int) + 1)) = xs.take (at' + 1) := cut_take (j := at' + 1)
    rw [ect]
    have gr := (Gr.refl (mu := mu0) gq.fh).own (o := .lst (xs.take (at' + 1))) np5
    have i5 : Is (upd Hq p5 (.lst (xs.take (at' + 1)))) (.ref D4) (met (cs.take (j + 1))) := ⟨D4, xs4, rfl, ln np5 w5.h, IsAll.up al5 gr.fh⟩
    have i6 : Is (upd Hq p5 (.lst (xs.take (at' + 1)))) (.ref p5) ((met cs).take (at' + 1)) := ⟨p5, _, rfl, upd_same, IsAll.up (alq.take (at' + 1)) gr.fh⟩
    rw [hmet] at i5
    refine ne_dat i5 i6 ⟨_, rfl, ifF (by rw [decide_eq_true rfl]; rfl) ?_⟩
    have hw6 := ln (u := .lst (xs.take (at' + 1))) np5 hw5.h
    generalize upd Hq p5 (.lst (xs.take (at' + 1))) = Hr at gr hw6
    -- same
    obtain ⟨te, he, hte⟩ := alq.get hat
    obtain ⟨tp, tx, ty, rfl, htp, htx, hty⟩ := id hte
    rw [← hde] at htx hty
    have htx : tx = V.int d.r := htx
    have hty : ty = V.int ((look d.l d.s).getD 0) := hty
    subst htx hty
    obtain ⟨row, e1, s0, e2, _⟩ := okd.ent hM
    obtain ⟨am, rs', ra, es', ev, eq1, f1, x1, f2, x2, iv⟩ := mach_ent (hmn.up goq.ff) e1 e2
    cases eq1
    have hDr := SqL.of (K := K) (gr.fh _ _ hDq)
    have htr := SqT.of (K := K) (gr.fh _ _ htp)
    refine ⟨_, rfl, _, rfl, _, rfl, D, _, _, _, rfl, rfl, hDr, at_of (j := at') rfl he, tp, _, _, _, rfl, rfl, htr, atI_nat (j := 0) rfl, m, _, _, _, rfl, rfl, SqL.of (gr.fh _ _ f1), at_of (Int.toNat_of_nonneg okd.r0).symm x1, ?_⟩
    refine ⟨_, rfl, _, rfl, D, _, _, _, rfl, rfl, hDr, at_of (j := at') rfl he, tp, _, _, _, rfl, rfl, htr, atI_nat (j := 1) rfl, ra, _, _, _, rfl, rfl, SqL.of (gr.fh _ _ f2), at_of (Int.toNat_of_nonneg s0).symm x2, nil_le, fun q7 nq7 => ?_⟩
    have gs := gr.own (o := .tup []) nq7
    have hw7 := ln (u := .tup []) nq7 hw6
    refine eq_dat (a := entOf M d) (b := Ent.emp) (iv.up gs.fh) ⟨q7, rfl, upd_same⟩ ⟨_, rfl, ?_⟩
    generalize upd Hr q7 (.tup []) = Hs at gs hw7
    have fin : ∀ sm : Bool, (sm = true ↔ (entOf M d = Ent.emp ∨ j = n)) → ∀ o, PartOf M N2 n o → (atI [V.int ((j : Int) + 1), V.non] (if sm = true then 1 else 0) = some (optV o)) := by
      intro sm hsm o po
      obtain rfl := poW.uniq po
      cases sm with
      | true => rw [if_pos rfl, if_pos (hsm.mp rfl)]; rfl
      | false => rw [if_neg (by decide), if_neg (fun z => by have := hsm.mpr z; cases this)]; rfl
    refine ite2 (fun ce => ?A) (fun ce => ?B)
    case' A =>
      have ce : entOf M d = Ent.emp := of_decide_eq_true ce
      have fin := fin true ⟨fun _ => .inl ce, fun _ => rfl⟩
    case' B =>
      have ce : ¬ entOf M d = Ent.emp := fun z => ce (decide_eq_true z)
      refine ⟨_, rfl, w4, _, _, _, rfl, rfl, SqT.of hw7, atI_nat (j := 1) rfl, _, rfl, rfl, ?_⟩
      have fin := fin (decide (V.int (j : Int) = V.int (n : Int))) ⟨fun z => .inr (by have := V.int.inj (of_decide_eq_true z); omega), fun z => decide_eq_true (by rw [z.resolve_left ce])⟩
    all_goals
      refine ⟨_, rfl, _, rfl, _, rfl, Fq, .ref m, v3, M, N2, R, S, R, S, n, rfl, gs.fh, hmn.up goq.ff, hM, hN2.up (gp.trans gq).ff, hN2ok, hn5, fun Ft Ht o gt po => ?_⟩
      have hw8 := gt.fr _ _ hw7 fun z => z
      refine ⟨_, rfl, w4, _, _, _, rfl, rfl, SqT.of hw8, atI_nat (j := 1) rfl, _, _, rfl, rfl, two_le, fun l9 nl9 => ?_⟩
      refine ⟨_, rfl, .inr ⟨_, rfl, ?_⟩⟩
      refine ⟨l9, _, _, _, rfl, rfl, SqL.of upd_same, fin o po, scal_opt o, ?_⟩
      rw [decide_eq_true rfl]
      exact q _

end
def all_tx {K : PySem.W.Frag} {h : Heap} {mg : Str → Option Value} {a_L_mixed a_L_purse a_L_draw a_L_machine a_L_late a_L_led a_L_any a_is_entry a_is_machine a_must_machine a_Goer_init a_Goer_entry a_Goer_step a_met_entries a_gone a_told_strip a_Goer_setup a_run a_L_kept a_parts_from a_visits a_records a_touched a_L_places a_law C_NoMachine C_Goer : Addr} {od_L_mixed an_L_mixed od_L_purse an_L_purse od_L_draw an_L_draw od_L_machine an_L_machine od_L_late an_L_late od_L_led an_L_led od_L_any an_L_any od_is_entry an_is_entry od_is_machine an_is_machine od_must_machine an_must_machine od_Goer_init an_Goer_init od_Goer_entry an_Goer_entry od_Goer_step an_Goer_step od_met_entries an_met_entries od_gone an_gone od_told_strip an_told_strip od_Goer_setup an_Goer_setup od_run an_run od_L_kept an_L_kept od_parts_from an_parts_from od_visits an_visits od_records an_records od_touched an_touched od_L_places an_L_places od_law an_law : Option Addr} {sl_L_mixed sl_L_purse sl_L_draw sl_L_machine sl_L_late sl_L_led sl_L_any sl_is_entry sl_is_machine sl_must_machine sl_Goer_init sl_Goer_entry sl_Goer_step sl_met_entries sl_gone sl_told_strip sl_Goer_setup sl_run sl_L_kept sl_parts_from sl_visits sl_records sl_touched sl_L_places sl_law : Array (Option Value)} {oc_L_mixed kV_L_mixed dc_L_mixed pm_L_mixed cd_L_mixed ct_L_mixed oc_L_purse kV_L_purse dc_L_purse pm_L_purse cd_L_purse ct_L_purse oc_L_draw kV_L_draw dc_L_draw pm_L_draw cd_L_draw ct_L_draw oc_L_machine kV_L_machine dc_L_machine pm_L_machine cd_L_machine ct_L_machine oc_L_late kV_L_late dc_L_late pm_L_late cd_L_late ct_L_late oc_L_led kV_L_led dc_L_led pm_L_led cd_L_led ct_L_led oc_L_any kV_L_any dc_L_any pm_L_any cd_L_any ct_L_any oc_is_entry kV_is_entry dc_is_entry pm_is_entry cd_is_entry ct_is_entry oc_is_machine kV_is_machine dc_is_machine pm_is_machine cd_is_machine ct_is_machine oc_must_machine kV_must_machine dc_must_machine pm_must_machine cd_must_machine ct_must_machine oc_Goer_init kV_Goer_init dc_Goer_init pm_Goer_init cd_Goer_init ct_Goer_init oc_Goer_entry kV_Goer_entry dc_Goer_entry pm_Goer_entry cd_Goer_entry ct_Goer_entry oc_Goer_step kV_Goer_step dc_Goer_step pm_Goer_step cd_Goer_step ct_Goer_step oc_met_entries kV_met_entries dc_met_entries pm_met_entries cd_met_entries ct_met_entries oc_gone kV_gone dc_gone pm_gone cd_gone ct_gone oc_told_strip kV_told_strip dc_told_strip pm_told_strip cd_told_strip ct_told_strip oc_Goer_setup kV_Goer_setup dc_Goer_setup pm_Goer_setup cd_Goer_setup ct_Goer_setup oc_run kV_run dc_run pm_run cd_run ct_run oc_L_kept kV_L_kept dc_L_kept pm_L_kept cd_L_kept ct_L_kept oc_parts_from kV_parts_from dc_parts_from pm_parts_from cd_parts_from ct_parts_from oc_visits kV_visits dc_visits pm_visits cd_visits ct_visits oc_records kV_records dc_records pm_records cd_records ct_records oc_touched kV_touched dc_touched pm_touched cd_touched ct_touched oc_L_places kV_L_places dc_L_places pm_L_places cd_L_places ct_L_places oc_law kV_law dc_law pm_law cd_law ct_law : Value} {tk_MOST_ROWS tk_MOST_SIGNS : Tok} (X : K.In h) (G : h.Ns mainGlobals mg)
    (n_NoMachine : PySem.W.nsIn K mainGlobals "NoMachine" = some (some (.ref C_NoMachine)))
    (n_Goer : PySem.W.nsIn K mainGlobals "Goer" = some (some (.ref C_Goer)))
    (n_L_mixed : PySem.W.nsIn K mainGlobals "_law_mixed" = some (some (.ref a_L_mixed)))
    (l_L_mixed : K.lookup a_L_mixed = some ⟨oc_L_mixed, od_L_mixed, .func (PySem.W.fnOf "_law_mixed" "_law_mixed" (defArgs s_L_mixed) (defBody s_L_mixed) (defScope s_L_mixed) .none kV_L_mixed dc_L_mixed pm_L_mixed an_L_mixed cd_L_mixed ct_L_mixed), sl_L_mixed⟩)
    (c_L_mixed : PySem.W.codeIn K cd_L_mixed "_law_mixed" = true)
    (k_L_mixed : PySem.W.keepIn K (.ref a_L_mixed) = true)
    (n_L_purse : PySem.W.nsIn K mainGlobals "_law_purse" = some (some (.ref a_L_purse)))
    (l_L_purse : K.lookup a_L_purse = some ⟨oc_L_purse, od_L_purse, .func (PySem.W.fnOf "_law_purse" "_law_purse" (defArgs s_L_purse) (defBody s_L_purse) (defScope s_L_purse) .none kV_L_purse dc_L_purse pm_L_purse an_L_purse cd_L_purse ct_L_purse), sl_L_purse⟩)
    (c_L_purse : PySem.W.codeIn K cd_L_purse "_law_purse" = true)
    (k_L_purse : PySem.W.keepIn K (.ref a_L_purse) = true)
    (n_L_draw : PySem.W.nsIn K mainGlobals "_law_draw" = some (some (.ref a_L_draw)))
    (l_L_draw : K.lookup a_L_draw = some ⟨oc_L_draw, od_L_draw, .func (PySem.W.fnOf "_law_draw" "_law_draw" (defArgs s_L_draw) (defBody s_L_draw) (defScope s_L_draw) .none kV_L_draw dc_L_draw pm_L_draw an_L_draw cd_L_draw ct_L_draw), sl_L_draw⟩)
    (c_L_draw : PySem.W.codeIn K cd_L_draw "_law_draw" = true)
    (k_L_draw : PySem.W.keepIn K (.ref a_L_draw) = true)
    (n_L_machine : PySem.W.nsIn K mainGlobals "_law_machine" = some (some (.ref a_L_machine)))
    (l_L_machine : K.lookup a_L_machine = some ⟨oc_L_machine, od_L_machine, .func (PySem.W.fnOf "_law_machine" "_law_machine" (defArgs s_L_machine) (defBody s_L_machine) (defScope s_L_machine) .none kV_L_machine dc_L_machine pm_L_machine an_L_machine cd_L_machine ct_L_machine), sl_L_machine⟩)
    (c_L_machine : PySem.W.codeIn K cd_L_machine "_law_machine" = true)
    (k_L_machine : PySem.W.keepIn K (.ref a_L_machine) = true)
    (n_L_late : PySem.W.nsIn K mainGlobals "_law_late" = some (some (.ref a_L_late)))
    (l_L_late : K.lookup a_L_late = some ⟨oc_L_late, od_L_late, .func (PySem.W.fnOf "_law_late" "_law_late" (defArgs s_L_late) (defBody s_L_late) (defScope s_L_late) .none kV_L_late dc_L_late pm_L_late an_L_late cd_L_late ct_L_late), sl_L_late⟩)
    (c_L_late : PySem.W.codeIn K cd_L_late "_law_late" = true)
    (k_L_late : PySem.W.keepIn K (.ref a_L_late) = true)
    (n_L_led : PySem.W.nsIn K mainGlobals "_law_led" = some (some (.ref a_L_led)))
    (l_L_led : K.lookup a_L_led = some ⟨oc_L_led, od_L_led, .func (PySem.W.fnOf "_law_led" "_law_led" (defArgs s_L_led) (defBody s_L_led) (defScope s_L_led) .none kV_L_led dc_L_led pm_L_led an_L_led cd_L_led ct_L_led), sl_L_led⟩)
    (c_L_led : PySem.W.codeIn K cd_L_led "_law_led" = true)
    (k_L_led : PySem.W.keepIn K (.ref a_L_led) = true)
    (n_L_any : PySem.W.nsIn K mainGlobals "_law_any" = some (some (.ref a_L_any)))
    (l_L_any : K.lookup a_L_any = some ⟨oc_L_any, od_L_any, .func (PySem.W.fnOf "_law_any" "_law_any" (defArgs s_L_any) (defBody s_L_any) (defScope s_L_any) .none kV_L_any dc_L_any pm_L_any an_L_any cd_L_any ct_L_any), sl_L_any⟩)
    (c_L_any : PySem.W.codeIn K cd_L_any "_law_any" = true)
    (k_L_any : PySem.W.keepIn K (.ref a_L_any) = true)
    (n_is_entry : PySem.W.nsIn K mainGlobals "is_entry" = some (some (.ref a_is_entry)))
    (l_is_entry : K.lookup a_is_entry = some ⟨oc_is_entry, od_is_entry, .func (PySem.W.fnOf "is_entry" "is_entry" (defArgs s_is_entry) (defBody s_is_entry) (defScope s_is_entry) .none kV_is_entry dc_is_entry pm_is_entry an_is_entry cd_is_entry ct_is_entry), sl_is_entry⟩)
    (c_is_entry : PySem.W.codeIn K cd_is_entry "is_entry" = true)
    (k_is_entry : PySem.W.keepIn K (.ref a_is_entry) = true)
    (n_is_machine : PySem.W.nsIn K mainGlobals "is_machine" = some (some (.ref a_is_machine)))
    (l_is_machine : K.lookup a_is_machine = some ⟨oc_is_machine, od_is_machine, .func (PySem.W.fnOf "is_machine" "is_machine" (defArgs s_is_machine) (defBody s_is_machine) (defScope s_is_machine) .none kV_is_machine dc_is_machine pm_is_machine an_is_machine cd_is_machine ct_is_machine), sl_is_machine⟩)
    (c_is_machine : PySem.W.codeIn K cd_is_machine "is_machine" = true)
    (k_is_machine : PySem.W.keepIn K (.ref a_is_machine) = true)
    (n_must_machine : PySem.W.nsIn K mainGlobals "must_machine" = some (some (.ref a_must_machine)))
    (l_must_machine : K.lookup a_must_machine = some ⟨oc_must_machine, od_must_machine, .func (PySem.W.fnOf "must_machine" "must_machine" (defArgs s_must_machine) (defBody s_must_machine) (defScope s_must_machine) .none kV_must_machine dc_must_machine pm_must_machine an_must_machine cd_must_machine ct_must_machine), sl_must_machine⟩)
    (c_must_machine : PySem.W.codeIn K cd_must_machine "must_machine" = true)
    (k_must_machine : PySem.W.keepIn K (.ref a_must_machine) = true)
    (n_Goer_init : PySem.W.findIn K (.ref C_Goer) "__init__" = some (some (.ref a_Goer_init)))
    (i_Goer_init : PySem.W.isFn K (.ref a_Goer_init) = true)
    (l_Goer_init : K.lookup a_Goer_init = some ⟨oc_Goer_init, od_Goer_init, .func (PySem.W.fnOf "__init__" "Goer.__init__" (defArgs s_Goer_init) (defBody s_Goer_init) (defScope s_Goer_init) .none kV_Goer_init dc_Goer_init pm_Goer_init an_Goer_init cd_Goer_init ct_Goer_init), sl_Goer_init⟩)
    (c_Goer_init : PySem.W.codeIn K cd_Goer_init "Goer.__init__" = true)
    (k_Goer_init : PySem.W.keepIn K (.ref a_Goer_init) = true)
    (n_Goer_entry : PySem.W.findIn K (.ref C_Goer) "entry" = some (some (.ref a_Goer_entry)))
    (i_Goer_entry : PySem.W.isFn K (.ref a_Goer_entry) = true)
    (l_Goer_entry : K.lookup a_Goer_entry = some ⟨oc_Goer_entry, od_Goer_entry, .func (PySem.W.fnOf "entry" "Goer.entry" (defArgs s_Goer_entry) (defBody s_Goer_entry) (defScope s_Goer_entry) .none kV_Goer_entry dc_Goer_entry pm_Goer_entry an_Goer_entry cd_Goer_entry ct_Goer_entry), sl_Goer_entry⟩)
    (c_Goer_entry : PySem.W.codeIn K cd_Goer_entry "Goer.entry" = true)
    (k_Goer_entry : PySem.W.keepIn K (.ref a_Goer_entry) = true)
    (n_Goer_step : PySem.W.findIn K (.ref C_Goer) "step" = some (some (.ref a_Goer_step)))
    (i_Goer_step : PySem.W.isFn K (.ref a_Goer_step) = true)
    (l_Goer_step : K.lookup a_Goer_step = some ⟨oc_Goer_step, od_Goer_step, .func (PySem.W.fnOf "step" "Goer.step" (defArgs s_Goer_step) (defBody s_Goer_step) (defScope s_Goer_step) .none kV_Goer_step dc_Goer_step pm_Goer_step an_Goer_step cd_Goer_step ct_Goer_step), sl_Goer_step⟩)
    (c_Goer_step : PySem.W.codeIn K cd_Goer_step "Goer.step" = true)
    (k_Goer_step : PySem.W.keepIn K (.ref a_Goer_step) = true)
    (n_met_entries : PySem.W.nsIn K mainGlobals "met_entries" = some (some (.ref a_met_entries)))
    (l_met_entries : K.lookup a_met_entries = some ⟨oc_met_entries, od_met_entries, .func (PySem.W.fnOf "met_entries" "met_entries" (defArgs s_met_entries) (defBody s_met_entries) (defScope s_met_entries) .none kV_met_entries dc_met_entries pm_met_entries an_met_entries cd_met_entries ct_met_entries), sl_met_entries⟩)
    (c_met_entries : PySem.W.codeIn K cd_met_entries "met_entries" = true)
    (k_met_entries : PySem.W.keepIn K (.ref a_met_entries) = true)
    (n_gone : PySem.W.nsIn K mainGlobals "gone" = some (some (.ref a_gone)))
    (l_gone : K.lookup a_gone = some ⟨oc_gone, od_gone, .func (PySem.W.fnOf "gone" "gone" (defArgs s_gone) (defBody s_gone) (defScope s_gone) .none kV_gone dc_gone pm_gone an_gone cd_gone ct_gone), sl_gone⟩)
    (c_gone : PySem.W.codeIn K cd_gone "gone" = true)
    (k_gone : PySem.W.keepIn K (.ref a_gone) = true)
    (n_told_strip : PySem.W.nsIn K mainGlobals "told_strip" = some (some (.ref a_told_strip)))
    (l_told_strip : K.lookup a_told_strip = some ⟨oc_told_strip, od_told_strip, .func (PySem.W.fnOf "told_strip" "told_strip" (defArgs s_told_strip) (defBody s_told_strip) (defScope s_told_strip) .none kV_told_strip dc_told_strip pm_told_strip an_told_strip cd_told_strip ct_told_strip), sl_told_strip⟩)
    (c_told_strip : PySem.W.codeIn K cd_told_strip "told_strip" = true)
    (k_told_strip : PySem.W.keepIn K (.ref a_told_strip) = true)
    (n_Goer_setup : PySem.W.findIn K (.ref C_Goer) "setup" = some (some (.ref a_Goer_setup)))
    (i_Goer_setup : PySem.W.isFn K (.ref a_Goer_setup) = true)
    (l_Goer_setup : K.lookup a_Goer_setup = some ⟨oc_Goer_setup, od_Goer_setup, .func (PySem.W.fnOf "setup" "Goer.setup" (defArgs s_Goer_setup) (defBody s_Goer_setup) (defScope s_Goer_setup) .none kV_Goer_setup dc_Goer_setup pm_Goer_setup an_Goer_setup cd_Goer_setup ct_Goer_setup), sl_Goer_setup⟩)
    (c_Goer_setup : PySem.W.codeIn K cd_Goer_setup "Goer.setup" = true)
    (k_Goer_setup : PySem.W.keepIn K (.ref a_Goer_setup) = true)
    (n_run : PySem.W.nsIn K mainGlobals "run" = some (some (.ref a_run)))
    (l_run : K.lookup a_run = some ⟨oc_run, od_run, .func (PySem.W.fnOf "run" "run" (defArgs s_run) (defBody s_run) (defScope s_run) .none kV_run dc_run pm_run an_run cd_run ct_run), sl_run⟩)
    (c_run : PySem.W.codeIn K cd_run "run" = true)
    (k_run : PySem.W.keepIn K (.ref a_run) = true)
    (n_L_kept : PySem.W.nsIn K mainGlobals "_law_kept" = some (some (.ref a_L_kept)))
    (l_L_kept : K.lookup a_L_kept = some ⟨oc_L_kept, od_L_kept, .func (PySem.W.fnOf "_law_kept" "_law_kept" (defArgs s_L_kept) (defBody s_L_kept) (defScope s_L_kept) .none kV_L_kept dc_L_kept pm_L_kept an_L_kept cd_L_kept ct_L_kept), sl_L_kept⟩)
    (c_L_kept : PySem.W.codeIn K cd_L_kept "_law_kept" = true)
    (k_L_kept : PySem.W.keepIn K (.ref a_L_kept) = true)
    (n_parts_from : PySem.W.nsIn K mainGlobals "parts_from" = some (some (.ref a_parts_from)))
    (l_parts_from : K.lookup a_parts_from = some ⟨oc_parts_from, od_parts_from, .func (PySem.W.fnOf "parts_from" "parts_from" (defArgs s_parts_from) (defBody s_parts_from) (defScope s_parts_from) .none kV_parts_from dc_parts_from pm_parts_from an_parts_from cd_parts_from ct_parts_from), sl_parts_from⟩)
    (c_parts_from : PySem.W.codeIn K cd_parts_from "parts_from" = true)
    (k_parts_from : PySem.W.keepIn K (.ref a_parts_from) = true)
    (n_visits : PySem.W.nsIn K mainGlobals "visits" = some (some (.ref a_visits)))
    (l_visits : K.lookup a_visits = some ⟨oc_visits, od_visits, .func (PySem.W.fnOf "visits" "visits" (defArgs s_visits) (defBody s_visits) (defScope s_visits) .none kV_visits dc_visits pm_visits an_visits cd_visits ct_visits), sl_visits⟩)
    (c_visits : PySem.W.codeIn K cd_visits "visits" = true)
    (k_visits : PySem.W.keepIn K (.ref a_visits) = true)
    (n_records : PySem.W.nsIn K mainGlobals "records" = some (some (.ref a_records)))
    (l_records : K.lookup a_records = some ⟨oc_records, od_records, .func (PySem.W.fnOf "records" "records" (defArgs s_records) (defBody s_records) (defScope s_records) .none kV_records dc_records pm_records an_records cd_records ct_records), sl_records⟩)
    (c_records : PySem.W.codeIn K cd_records "records" = true)
    (k_records : PySem.W.keepIn K (.ref a_records) = true)
    (n_touched : PySem.W.nsIn K mainGlobals "touched" = some (some (.ref a_touched)))
    (l_touched : K.lookup a_touched = some ⟨oc_touched, od_touched, .func (PySem.W.fnOf "touched" "touched" (defArgs s_touched) (defBody s_touched) (defScope s_touched) .none kV_touched dc_touched pm_touched an_touched cd_touched ct_touched), sl_touched⟩)
    (c_touched : PySem.W.codeIn K cd_touched "touched" = true)
    (k_touched : PySem.W.keepIn K (.ref a_touched) = true)
    (n_L_places : PySem.W.nsIn K mainGlobals "_law_places" = some (some (.ref a_L_places)))
    (l_L_places : K.lookup a_L_places = some ⟨oc_L_places, od_L_places, .func (PySem.W.fnOf "_law_places" "_law_places" (defArgs s_L_places) (defBody s_L_places) (defScope s_L_places) .none kV_L_places dc_L_places pm_L_places an_L_places cd_L_places ct_L_places), sl_L_places⟩)
    (c_L_places : PySem.W.codeIn K cd_L_places "_law_places" = true)
    (k_L_places : PySem.W.keepIn K (.ref a_L_places) = true)
    (n_law : PySem.W.nsIn K mainGlobals "law" = some (some (.ref a_law)))
    (l_law : K.lookup a_law = some ⟨oc_law, od_law, .func (PySem.W.fnOf "law" "law" (defArgs s_law) (defBody s_law) (defScope s_law) .none kV_law dc_law pm_law an_law cd_law ct_law), sl_law⟩)
    (c_law : PySem.W.codeIn K cd_law "law" = true)
    (k_law : PySem.W.keepIn K (.ref a_law) = true)
    (pg_Goer : PySem.W.plainGet K C_Goer Str.empty = true)
    (hd_Goer : PySem.W.hasDictIn K C_Goer = true)
    (po_Goer : PySem.W.plainOver K C_Goer = true)
    (sa_Goer : PySem.W.findIn K (.ref C_Goer) "__setattr__" = some (some (.builtin "object.__setattr__")))
    (mk_Goer : PySem.W.makesIn K C_Goer = true)
    (kc_Goer : PySem.W.keepIn K (.ref C_Goer) = true)
    (f_Goer_table : PySem.W.findIn K (.ref C_Goer) "table" = some none)
    (f_Goer_row : PySem.W.findIn K (.ref C_Goer) "row" = some none)
    (f_Goer_spot : PySem.W.findIn K (.ref C_Goer) "spot" = some none)
    (f_Goer_signs : PySem.W.findIn K (.ref C_Goer) "signs" = some none)
    (f_Goer_steps : PySem.W.findIn K (.ref C_Goer) "steps" = some none)
    (n_MOST_ROWS : PySem.W.nsIn K mainGlobals "MOST_ROWS" = some (some (.int 4 tk_MOST_ROWS)))
    (n_MOST_SIGNS : PySem.W.nsIn K mainGlobals "MOST_SIGNS" = some (some (.int 4 tk_MOST_SIGNS)))
    (z_range : PySem.W.nsIn K mainGlobals "range" = some none)
    (z_len : PySem.W.nsIn K mainGlobals "len" = some none)
    (z_abs : PySem.W.nsIn K mainGlobals "abs" = some none)
    (z_all : PySem.W.nsIn K mainGlobals "all" = some none)
    (z_dict : PySem.W.nsIn K mainGlobals "dict" = some none)
    (z_sorted : PySem.W.nsIn K mainGlobals "sorted" = some none)
    (z_int : PySem.W.nsIn K mainGlobals "int" = some none)
    (z_max : PySem.W.nsIn K mainGlobals "max" = some none)
    (z_min : PySem.W.nsIn K mainGlobals "min" = some none)
    (z_list : PySem.W.nsIn K mainGlobals "list" = some none)
    (z_sum : PySem.W.nsIn K mainGlobals "sum" = some none)
    (z_set : PySem.W.nsIn K mainGlobals "set" = some none) : Tx K mg where
  a_L_mixed := a_L_mixed
  fd_L_mixed := PySem.W.fnOf "_law_mixed" "_law_mixed" (defArgs s_L_mixed) (defBody s_L_mixed) (defScope s_L_mixed) .none kV_L_mixed dc_L_mixed pm_L_mixed an_L_mixed cd_L_mixed ct_L_mixed
  F_L_mixed := fun_mk l_L_mixed c_L_mixed k_L_mixed
  b_L_mixed := (fun_mk (st := s_L_mixed) l_L_mixed c_L_mixed k_L_mixed).binds (ps := ["_law_cell", "_law_k"]) fun _ _ _ _ _ _ us hl => match us, hl with | [_, _], _ => rfl
  m_L_mixed := PySem.W.mg_of X G n_L_mixed
  a_L_purse := a_L_purse
  fd_L_purse := PySem.W.fnOf "_law_purse" "_law_purse" (defArgs s_L_purse) (defBody s_L_purse) (defScope s_L_purse) .none kV_L_purse dc_L_purse pm_L_purse an_L_purse cd_L_purse ct_L_purse
  F_L_purse := fun_mk l_L_purse c_L_purse k_L_purse
  b_L_purse := (fun_mk (st := s_L_purse) l_L_purse c_L_purse k_L_purse).binds (ps := ["_law_script"]) fun _ _ _ _ _ _ us hl => match us, hl with | [_], _ => rfl
  m_L_purse := PySem.W.mg_of X G n_L_purse
  a_L_draw := a_L_draw
  fd_L_draw := PySem.W.fnOf "_law_draw" "_law_draw" (defArgs s_L_draw) (defBody s_L_draw) (defScope s_L_draw) .none kV_L_draw dc_L_draw pm_L_draw an_L_draw cd_L_draw ct_L_draw
  F_L_draw := fun_mk l_L_draw c_L_draw k_L_draw
  b_L_draw := (fun_mk (st := s_L_draw) l_L_draw c_L_draw k_L_draw).binds (ps := ["_law_purse_here", "_law_out_of"]) fun _ _ _ _ _ _ us hl => match us, hl with | [_, _], _ => rfl
  m_L_draw := PySem.W.mg_of X G n_L_draw
  a_L_machine := a_L_machine
  fd_L_machine := PySem.W.fnOf "_law_machine" "_law_machine" (defArgs s_L_machine) (defBody s_L_machine) (defScope s_L_machine) .none kV_L_machine dc_L_machine pm_L_machine an_L_machine cd_L_machine ct_L_machine
  F_L_machine := fun_mk l_L_machine c_L_machine k_L_machine
  b_L_machine := (fun_mk (st := s_L_machine) l_L_machine c_L_machine k_L_machine).binds (ps := ["_law_purse_here"]) fun _ _ _ _ _ _ us hl => match us, hl with | [_], _ => rfl
  m_L_machine := PySem.W.mg_of X G n_L_machine
  a_L_late := a_L_late
  fd_L_late := PySem.W.fnOf "_law_late" "_law_late" (defArgs s_L_late) (defBody s_L_late) (defScope s_L_late) .none kV_L_late dc_L_late pm_L_late an_L_late cd_L_late ct_L_late
  F_L_late := fun_mk l_L_late c_L_late k_L_late
  b_L_late := (fun_mk (st := s_L_late) l_L_late c_L_late k_L_late).binds (ps := ["_law_purse_here"]) fun _ _ _ _ _ _ us hl => match us, hl with | [_], _ => rfl
  m_L_late := PySem.W.mg_of X G n_L_late
  a_L_led := a_L_led
  fd_L_led := PySem.W.fnOf "_law_led" "_law_led" (defArgs s_L_led) (defBody s_L_led) (defScope s_L_led) .none kV_L_led dc_L_led pm_L_led an_L_led cd_L_led ct_L_led
  F_L_led := fun_mk l_L_led c_L_led k_L_led
  b_L_led := (fun_mk (st := s_L_led) l_L_led c_L_led k_L_led).binds (ps := ["_law_purse_here"]) fun _ _ _ _ _ _ us hl => match us, hl with | [_], _ => rfl
  m_L_led := PySem.W.mg_of X G n_L_led
  a_L_any := a_L_any
  fd_L_any := PySem.W.fnOf "_law_any" "_law_any" (defArgs s_L_any) (defBody s_L_any) (defScope s_L_any) .none kV_L_any dc_L_any pm_L_any an_L_any cd_L_any ct_L_any
  F_L_any := fun_mk l_L_any c_L_any k_L_any
  b_L_any := (fun_mk (st := s_L_any) l_L_any c_L_any k_L_any).binds (ps := ["_law_purse_here"]) fun _ _ _ _ _ _ us hl => match us, hl with | [_], _ => rfl
  m_L_any := PySem.W.mg_of X G n_L_any
  a_is_entry := a_is_entry
  fd_is_entry := PySem.W.fnOf "is_entry" "is_entry" (defArgs s_is_entry) (defBody s_is_entry) (defScope s_is_entry) .none kV_is_entry dc_is_entry pm_is_entry an_is_entry cd_is_entry ct_is_entry
  F_is_entry := fun_mk l_is_entry c_is_entry k_is_entry
  b_is_entry := (fun_mk (st := s_is_entry) l_is_entry c_is_entry k_is_entry).binds (ps := ["entry", "rows", "signs"]) fun _ _ _ _ _ _ us hl => match us, hl with | [_, _, _], _ => rfl
  m_is_entry := PySem.W.mg_of X G n_is_entry
  a_is_machine := a_is_machine
  fd_is_machine := PySem.W.fnOf "is_machine" "is_machine" (defArgs s_is_machine) (defBody s_is_machine) (defScope s_is_machine) .none kV_is_machine dc_is_machine pm_is_machine an_is_machine cd_is_machine ct_is_machine
  F_is_machine := fun_mk l_is_machine c_is_machine k_is_machine
  b_is_machine := (fun_mk (st := s_is_machine) l_is_machine c_is_machine k_is_machine).binds (ps := ["machine"]) fun _ _ _ _ _ _ us hl => match us, hl with | [_], _ => rfl
  m_is_machine := PySem.W.mg_of X G n_is_machine
  a_must_machine := a_must_machine
  fd_must_machine := PySem.W.fnOf "must_machine" "must_machine" (defArgs s_must_machine) (defBody s_must_machine) (defScope s_must_machine) .none kV_must_machine dc_must_machine pm_must_machine an_must_machine cd_must_machine ct_must_machine
  F_must_machine := fun_mk l_must_machine c_must_machine k_must_machine
  b_must_machine := (fun_mk (st := s_must_machine) l_must_machine c_must_machine k_must_machine).binds (ps := ["machine"]) fun _ _ _ _ _ _ us hl => match us, hl with | [_], _ => rfl
  m_must_machine := PySem.W.mg_of X G n_must_machine
  a_Goer_init := a_Goer_init
  fd_Goer_init := PySem.W.fnOf "__init__" "Goer.__init__" (defArgs s_Goer_init) (defBody s_Goer_init) (defScope s_Goer_init) .none kV_Goer_init dc_Goer_init pm_Goer_init an_Goer_init cd_Goer_init ct_Goer_init
  F_Goer_init := fun_mk l_Goer_init c_Goer_init k_Goer_init
  b_Goer_init := (fun_mk (st := s_Goer_init) l_Goer_init c_Goer_init k_Goer_init).binds (ps := ["self", "machine", "setup"]) fun _ _ _ _ _ _ us hl => match us, hl with | [_, _, _], _ => rfl
  a_Goer_entry := a_Goer_entry
  fd_Goer_entry := PySem.W.fnOf "entry" "Goer.entry" (defArgs s_Goer_entry) (defBody s_Goer_entry) (defScope s_Goer_entry) .none kV_Goer_entry dc_Goer_entry pm_Goer_entry an_Goer_entry cd_Goer_entry ct_Goer_entry
  F_Goer_entry := fun_mk l_Goer_entry c_Goer_entry k_Goer_entry
  b_Goer_entry := (fun_mk (st := s_Goer_entry) l_Goer_entry c_Goer_entry k_Goer_entry).binds (ps := ["self"]) fun _ _ _ _ _ _ us hl => match us, hl with | [_], _ => rfl
  a_Goer_step := a_Goer_step
  fd_Goer_step := PySem.W.fnOf "step" "Goer.step" (defArgs s_Goer_step) (defBody s_Goer_step) (defScope s_Goer_step) .none kV_Goer_step dc_Goer_step pm_Goer_step an_Goer_step cd_Goer_step ct_Goer_step
  F_Goer_step := fun_mk l_Goer_step c_Goer_step k_Goer_step
  b_Goer_step := (fun_mk (st := s_Goer_step) l_Goer_step c_Goer_step k_Goer_step).binds (ps := ["self"]) fun _ _ _ _ _ _ us hl => match us, hl with | [_], _ => rfl
  a_met_entries := a_met_entries
  fd_met_entries := PySem.W.fnOf "met_entries" "met_entries" (defArgs s_met_entries) (defBody s_met_entries) (defScope s_met_entries) .none kV_met_entries dc_met_entries pm_met_entries an_met_entries cd_met_entries ct_met_entries
  F_met_entries := fun_mk l_met_entries c_met_entries k_met_entries
  b_met_entries := (fun_mk (st := s_met_entries) l_met_entries c_met_entries k_met_entries).binds (ps := ["machine", "most"]) fun _ _ _ _ _ _ us hl => match us, hl with | [_, _], _ => rfl
  m_met_entries := PySem.W.mg_of X G n_met_entries
  a_gone := a_gone
  fd_gone := PySem.W.fnOf "gone" "gone" (defArgs s_gone) (defBody s_gone) (defScope s_gone) .none kV_gone dc_gone pm_gone an_gone cd_gone ct_gone
  F_gone := fun_mk l_gone c_gone k_gone
  b_gone := (fun_mk (st := s_gone) l_gone c_gone k_gone).binds (ps := ["machine", "most"]) fun _ _ _ _ _ _ us hl => match us, hl with | [_, _], _ => rfl
  m_gone := PySem.W.mg_of X G n_gone
  a_told_strip := a_told_strip
  fd_told_strip := PySem.W.fnOf "told_strip" "told_strip" (defArgs s_told_strip) (defBody s_told_strip) (defScope s_told_strip) .none kV_told_strip dc_told_strip pm_told_strip an_told_strip cd_told_strip ct_told_strip
  F_told_strip := fun_mk l_told_strip c_told_strip k_told_strip
  b_told_strip := (fun_mk (st := s_told_strip) l_told_strip c_told_strip k_told_strip).binds (ps := ["signs"]) fun _ _ _ _ _ _ us hl => match us, hl with | [_], _ => rfl
  m_told_strip := PySem.W.mg_of X G n_told_strip
  a_Goer_setup := a_Goer_setup
  fd_Goer_setup := PySem.W.fnOf "setup" "Goer.setup" (defArgs s_Goer_setup) (defBody s_Goer_setup) (defScope s_Goer_setup) .none kV_Goer_setup dc_Goer_setup pm_Goer_setup an_Goer_setup cd_Goer_setup ct_Goer_setup
  F_Goer_setup := fun_mk l_Goer_setup c_Goer_setup k_Goer_setup
  b_Goer_setup := (fun_mk (st := s_Goer_setup) l_Goer_setup c_Goer_setup k_Goer_setup).binds (ps := ["self"]) fun _ _ _ _ _ _ us hl => match us, hl with | [_], _ => rfl
  a_run := a_run
  fd_run := PySem.W.fnOf "run" "run" (defArgs s_run) (defBody s_run) (defScope s_run) .none kV_run dc_run pm_run an_run cd_run ct_run
  F_run := fun_mk l_run c_run k_run
  b_run := (fun_mk (st := s_run) l_run c_run k_run).binds (ps := ["machine", "most"]) fun _ _ _ _ _ _ us hl => match us, hl with | [_, _], _ => rfl
  m_run := PySem.W.mg_of X G n_run
  a_L_kept := a_L_kept
  fd_L_kept := PySem.W.fnOf "_law_kept" "_law_kept" (defArgs s_L_kept) (defBody s_L_kept) (defScope s_L_kept) .none kV_L_kept dc_L_kept pm_L_kept an_L_kept cd_L_kept ct_L_kept
  F_L_kept := fun_mk l_L_kept c_L_kept k_L_kept
  b_L_kept := (fun_mk (st := s_L_kept) l_L_kept c_L_kept k_L_kept).binds (ps := ["_law_machine_here", "_law_entries"]) fun _ _ _ _ _ _ us hl => match us, hl with | [_, _], _ => rfl
  m_L_kept := PySem.W.mg_of X G n_L_kept
  a_parts_from := a_parts_from
  fd_parts_from := PySem.W.fnOf "parts_from" "parts_from" (defArgs s_parts_from) (defBody s_parts_from) (defScope s_parts_from) .none kV_parts_from dc_parts_from pm_parts_from an_parts_from cd_parts_from ct_parts_from
  F_parts_from := fun_mk l_parts_from c_parts_from k_parts_from
  b_parts_from := (fun_mk (st := s_parts_from) l_parts_from c_parts_from k_parts_from).binds (ps := ["one", "other", "most"]) fun _ _ _ _ _ _ us hl => match us, hl with | [_, _, _], _ => rfl
  m_parts_from := PySem.W.mg_of X G n_parts_from
  a_visits := a_visits
  fd_visits := PySem.W.fnOf "visits" "visits" (defArgs s_visits) (defBody s_visits) (defScope s_visits) .none kV_visits dc_visits pm_visits an_visits cd_visits ct_visits
  F_visits := fun_mk l_visits c_visits k_visits
  b_visits := (fun_mk (st := s_visits) l_visits c_visits k_visits).binds (ps := ["machine", "most"]) fun _ _ _ _ _ _ us hl => match us, hl with | [_, _], _ => rfl
  m_visits := PySem.W.mg_of X G n_visits
  a_records := a_records
  fd_records := PySem.W.fnOf "records" "records" (defArgs s_records) (defBody s_records) (defScope s_records) .none kV_records dc_records pm_records an_records cd_records ct_records
  F_records := fun_mk l_records c_records k_records
  b_records := (fun_mk (st := s_records) l_records c_records k_records).binds (ps := ["machine", "most"]) fun _ _ _ _ _ _ us hl => match us, hl with | [_, _], _ => rfl
  m_records := PySem.W.mg_of X G n_records
  a_touched := a_touched
  fd_touched := PySem.W.fnOf "touched" "touched" (defArgs s_touched) (defBody s_touched) (defScope s_touched) .none kV_touched dc_touched pm_touched an_touched cd_touched ct_touched
  F_touched := fun_mk l_touched c_touched k_touched
  b_touched := (fun_mk (st := s_touched) l_touched c_touched k_touched).binds (ps := ["machine", "most"]) fun _ _ _ _ _ _ us hl => match us, hl with | [_, _], _ => rfl
  m_touched := PySem.W.mg_of X G n_touched
  a_L_places := a_L_places
  fd_L_places := PySem.W.fnOf "_law_places" "_law_places" (defArgs s_L_places) (defBody s_L_places) (defScope s_L_places) .none kV_L_places dc_L_places pm_L_places an_L_places cd_L_places ct_L_places
  F_L_places := fun_mk l_L_places c_L_places k_L_places
  b_L_places := (fun_mk (st := s_L_places) l_L_places c_L_places k_L_places).binds (ps := ["_law_machine_here", "_law_most", "_law_far"]) fun _ _ _ _ _ _ us hl => match us, hl with | [_, _, _], _ => rfl
  m_L_places := PySem.W.mg_of X G n_L_places
  a_law := a_law
  fd_law := PySem.W.fnOf "law" "law" (defArgs s_law) (defBody s_law) (defScope s_law) .none kV_law dc_law pm_law an_law cd_law ct_law
  F_law := fun_mk l_law c_law k_law
  b_law := (fun_mk (st := s_law) l_law c_law k_law).binds (ps := ["_law_script"]) fun _ _ _ _ _ _ us hl => match us, hl with | [_], _ => rfl
  m_law := PySem.W.mg_of X G n_law
  C_NoMachine := C_NoMachine
  m_NoMachine := PySem.W.mg_of X G n_NoMachine
  C_Goer := C_Goer
  m_Goer := PySem.W.mg_of X G n_Goer
  cl_Goer := ⟨pg_Goer, hd_Goer, po_Goer, sa_Goer⟩
  M_Goer := ⟨mk_Goer, n_Goer_init, i_Goer_init, kc_Goer⟩
  M_Goer_entry := ⟨n_Goer_entry, i_Goer_entry, k_Goer_entry⟩
  M_Goer_step := ⟨n_Goer_step, i_Goer_step, k_Goer_step⟩
  M_Goer_setup := ⟨n_Goer_setup, i_Goer_setup, k_Goer_setup⟩
  nA_Goer_table := f_Goer_table
  nA_Goer_row := f_Goer_row
  nA_Goer_spot := f_Goer_spot
  nA_Goer_signs := f_Goer_signs
  nA_Goer_steps := f_Goer_steps
  tk_MOST_ROWS := tk_MOST_ROWS
  m_MOST_ROWS := PySem.W.mg_of X G n_MOST_ROWS
  tk_MOST_SIGNS := tk_MOST_SIGNS
  m_MOST_SIGNS := PySem.W.mg_of X G n_MOST_SIGNS
  n_range := PySem.W.mg_none_of X G z_range
  n_len := PySem.W.mg_none_of X G z_len
  n_abs := PySem.W.mg_none_of X G z_abs
  n_all := PySem.W.mg_none_of X G z_all
  n_dict := PySem.W.mg_none_of X G z_dict
  n_sorted := PySem.W.mg_none_of X G z_sorted
  n_int := PySem.W.mg_none_of X G z_int
  n_max := PySem.W.mg_none_of X G z_max
  n_min := PySem.W.mg_none_of X G z_min
  n_list := PySem.W.mg_none_of X G z_list
  n_sum := PySem.W.mg_none_of X G z_sum
  n_set := PySem.W.mg_none_of X G z_set
theorem all_mk {l : PySem.W.OpenLaw} {w : World} {K : PySem.W.Frag} {h : Heap} {mg : Str → Option Value} {fa : Addr} (X : K.In h) (G : h.Ns mainGlobals mg) (hfa : mg "law" = some (.ref fa)) (t : Tx K mg)
    (hb : ∃ (kV dc pm : Value) (an : Option Addr) (cd ct : Value), t.fd_law = PySem.W.fnOf "law" "law" (defArgs s_law) (defBody s_law) (defScope s_law) .none kV dc pm an cd ct) :
    ∃ fd : FuncData, (∀ (s : Shared) (v : Value), BindsTo s fd ⟨[v], []⟩ [("_law_script", v)]) ∧ ∀ base : Heap, K.In base → base.Ns mainGlobals mg → FnOk l.prog w K mg base CX0 6 fa fd ["_law_script"] (sp_law K) := by
  have e := hfa.symm.trans t.m_law
  cases e
  refine ⟨t.fd_law, fun s v => ?_, fun base _ _ => ok_law t⟩
  obtain ⟨kV, dc, pm, an, cd, ct, e⟩ := hb
  rw [e]
  exact .of_eq rfl
theorem walk {l : PySem.W.OpenLaw} {q : Program} {loose : List Str} {XP : (Str → Option Value) → Heap → Prop} {YP : World → Heap → Prop} {d : DefRec} {K : Params → PySem.W.Frag} (hn : l.most = some 63) (hdf : d.params.defaults = [])
    (hY : ∀ (w : World) (h : Heap), YP w h → (K w.params).In h)
    (F : ∀ (w : World) (mg : Str → Option Value) (fa : Addr) (h : Heap), (K w.params).In h → h.Ns mainGlobals mg → mg d.name = some (.ref fa) →
      ∃ fd : FuncData, (∀ (s : Shared) (u : Value), BindsTo s fd ⟨[u], []⟩ [("_law_script", u)]) ∧ ∀ base : Heap, (K w.params).In base → base.Ns mainGlobals mg → FnOk l.prog w (K w.params) mg base CX0 6 fa fd ["_law_script"] (sp_law (K w.params))) :
    PySem.W.WalkO q loose XP YP l.row.toRowW d [] (fun f vs => PySem.call f vs) :=
  L2.walk_of (n := 63) (k := 6) (x := "_law_script") (CX := fun _ => CX0) (sp := fun w => sp_law (K w.params)) hn (by decide) hdf ⟨rfl, by decide, by decide⟩ hY F (fun _ _ a ns hl _ hS => ⟨a, ns, rfl, hS, hl, fun _ => rfl⟩) fun _ _ _ _ _ z => z
theorem all_go {l : PySem.W.OpenLaw} {w : World} {K : PySem.W.Frag} {h : Heap} {mg : Str → Option Value} {fa : Addr} {a_L_mixed a_L_purse a_L_draw a_L_machine a_L_late a_L_led a_L_any a_is_entry a_is_machine a_must_machine a_Goer_init a_Goer_entry a_Goer_step a_met_entries a_gone a_told_strip a_Goer_setup a_run a_L_kept a_parts_from a_visits a_records a_touched a_L_places a_law C_NoMachine C_Goer : Addr} {od_L_mixed an_L_mixed od_L_purse an_L_purse od_L_draw an_L_draw od_L_machine an_L_machine od_L_late an_L_late od_L_led an_L_led od_L_any an_L_any od_is_entry an_is_entry od_is_machine an_is_machine od_must_machine an_must_machine od_Goer_init an_Goer_init od_Goer_entry an_Goer_entry od_Goer_step an_Goer_step od_met_entries an_met_entries od_gone an_gone od_told_strip an_told_strip od_Goer_setup an_Goer_setup od_run an_run od_L_kept an_L_kept od_parts_from an_parts_from od_visits an_visits od_records an_records od_touched an_touched od_L_places an_L_places od_law an_law : Option Addr} {sl_L_mixed sl_L_purse sl_L_draw sl_L_machine sl_L_late sl_L_led sl_L_any sl_is_entry sl_is_machine sl_must_machine sl_Goer_init sl_Goer_entry sl_Goer_step sl_met_entries sl_gone sl_told_strip sl_Goer_setup sl_run sl_L_kept sl_parts_from sl_visits sl_records sl_touched sl_L_places sl_law : Array (Option Value)} {oc_L_mixed kV_L_mixed dc_L_mixed pm_L_mixed cd_L_mixed ct_L_mixed oc_L_purse kV_L_purse dc_L_purse pm_L_purse cd_L_purse ct_L_purse oc_L_draw kV_L_draw dc_L_draw pm_L_draw cd_L_draw ct_L_draw oc_L_machine kV_L_machine dc_L_machine pm_L_machine cd_L_machine ct_L_machine oc_L_late kV_L_late dc_L_late pm_L_late cd_L_late ct_L_late oc_L_led kV_L_led dc_L_led pm_L_led cd_L_led ct_L_led oc_L_any kV_L_any dc_L_any pm_L_any cd_L_any ct_L_any oc_is_entry kV_is_entry dc_is_entry pm_is_entry cd_is_entry ct_is_entry oc_is_machine kV_is_machine dc_is_machine pm_is_machine cd_is_machine ct_is_machine oc_must_machine kV_must_machine dc_must_machine pm_must_machine cd_must_machine ct_must_machine oc_Goer_init kV_Goer_init dc_Goer_init pm_Goer_init cd_Goer_init ct_Goer_init oc_Goer_entry kV_Goer_entry dc_Goer_entry pm_Goer_entry cd_Goer_entry ct_Goer_entry oc_Goer_step kV_Goer_step dc_Goer_step pm_Goer_step cd_Goer_step ct_Goer_step oc_met_entries kV_met_entries dc_met_entries pm_met_entries cd_met_entries ct_met_entries oc_gone kV_gone dc_gone pm_gone cd_gone ct_gone oc_told_strip kV_told_strip dc_told_strip pm_told_strip cd_told_strip ct_told_strip oc_Goer_setup kV_Goer_setup dc_Goer_setup pm_Goer_setup cd_Goer_setup ct_Goer_setup oc_run kV_run dc_run pm_run cd_run ct_run oc_L_kept kV_L_kept dc_L_kept pm_L_kept cd_L_kept ct_L_kept oc_parts_from kV_parts_from dc_parts_from pm_parts_from cd_parts_from ct_parts_from oc_visits kV_visits dc_visits pm_visits cd_visits ct_visits oc_records kV_records dc_records pm_records cd_records ct_records oc_touched kV_touched dc_touched pm_touched cd_touched ct_touched oc_L_places kV_L_places dc_L_places pm_L_places cd_L_places ct_L_places oc_law kV_law dc_law pm_law cd_law ct_law : Value} {tk_MOST_ROWS tk_MOST_SIGNS : Tok} (X : K.In h) (G : h.Ns mainGlobals mg) (hfa : mg "law" = some (.ref fa))
    (n_NoMachine : PySem.W.nsIn K mainGlobals "NoMachine" = some (some (.ref C_NoMachine)))
    (n_Goer : PySem.W.nsIn K mainGlobals "Goer" = some (some (.ref C_Goer)))
    (n_L_mixed : PySem.W.nsIn K mainGlobals "_law_mixed" = some (some (.ref a_L_mixed)))
    (l_L_mixed : K.lookup a_L_mixed = some ⟨oc_L_mixed, od_L_mixed, .func (PySem.W.fnOf "_law_mixed" "_law_mixed" (defArgs s_L_mixed) (defBody s_L_mixed) (defScope s_L_mixed) .none kV_L_mixed dc_L_mixed pm_L_mixed an_L_mixed cd_L_mixed ct_L_mixed), sl_L_mixed⟩)
    (c_L_mixed : PySem.W.codeIn K cd_L_mixed "_law_mixed" = true)
    (k_L_mixed : PySem.W.keepIn K (.ref a_L_mixed) = true)
    (n_L_purse : PySem.W.nsIn K mainGlobals "_law_purse" = some (some (.ref a_L_purse)))
    (l_L_purse : K.lookup a_L_purse = some ⟨oc_L_purse, od_L_purse, .func (PySem.W.fnOf "_law_purse" "_law_purse" (defArgs s_L_purse) (defBody s_L_purse) (defScope s_L_purse) .none kV_L_purse dc_L_purse pm_L_purse an_L_purse cd_L_purse ct_L_purse), sl_L_purse⟩)
    (c_L_purse : PySem.W.codeIn K cd_L_purse "_law_purse" = true)
    (k_L_purse : PySem.W.keepIn K (.ref a_L_purse) = true)
    (n_L_draw : PySem.W.nsIn K mainGlobals "_law_draw" = some (some (.ref a_L_draw)))
    (l_L_draw : K.lookup a_L_draw = some ⟨oc_L_draw, od_L_draw, .func (PySem.W.fnOf "_law_draw" "_law_draw" (defArgs s_L_draw) (defBody s_L_draw) (defScope s_L_draw) .none kV_L_draw dc_L_draw pm_L_draw an_L_draw cd_L_draw ct_L_draw), sl_L_draw⟩)
    (c_L_draw : PySem.W.codeIn K cd_L_draw "_law_draw" = true)
    (k_L_draw : PySem.W.keepIn K (.ref a_L_draw) = true)
    (n_L_machine : PySem.W.nsIn K mainGlobals "_law_machine" = some (some (.ref a_L_machine)))
    (l_L_machine : K.lookup a_L_machine = some ⟨oc_L_machine, od_L_machine, .func (PySem.W.fnOf "_law_machine" "_law_machine" (defArgs s_L_machine) (defBody s_L_machine) (defScope s_L_machine) .none kV_L_machine dc_L_machine pm_L_machine an_L_machine cd_L_machine ct_L_machine), sl_L_machine⟩)
    (c_L_machine : PySem.W.codeIn K cd_L_machine "_law_machine" = true)
    (k_L_machine : PySem.W.keepIn K (.ref a_L_machine) = true)
    (n_L_late : PySem.W.nsIn K mainGlobals "_law_late" = some (some (.ref a_L_late)))
    (l_L_late : K.lookup a_L_late = some ⟨oc_L_late, od_L_late, .func (PySem.W.fnOf "_law_late" "_law_late" (defArgs s_L_late) (defBody s_L_late) (defScope s_L_late) .none kV_L_late dc_L_late pm_L_late an_L_late cd_L_late ct_L_late), sl_L_late⟩)
    (c_L_late : PySem.W.codeIn K cd_L_late "_law_late" = true)
    (k_L_late : PySem.W.keepIn K (.ref a_L_late) = true)
    (n_L_led : PySem.W.nsIn K mainGlobals "_law_led" = some (some (.ref a_L_led)))
    (l_L_led : K.lookup a_L_led = some ⟨oc_L_led, od_L_led, .func (PySem.W.fnOf "_law_led" "_law_led" (defArgs s_L_led) (defBody s_L_led) (defScope s_L_led) .none kV_L_led dc_L_led pm_L_led an_L_led cd_L_led ct_L_led), sl_L_led⟩)
    (c_L_led : PySem.W.codeIn K cd_L_led "_law_led" = true)
    (k_L_led : PySem.W.keepIn K (.ref a_L_led) = true)
    (n_L_any : PySem.W.nsIn K mainGlobals "_law_any" = some (some (.ref a_L_any)))
    (l_L_any : K.lookup a_L_any = some ⟨oc_L_any, od_L_any, .func (PySem.W.fnOf "_law_any" "_law_any" (defArgs s_L_any) (defBody s_L_any) (defScope s_L_any) .none kV_L_any dc_L_any pm_L_any an_L_any cd_L_any ct_L_any), sl_L_any⟩)
    (c_L_any : PySem.W.codeIn K cd_L_any "_law_any" = true)
    (k_L_any : PySem.W.keepIn K (.ref a_L_any) = true)
    (n_is_entry : PySem.W.nsIn K mainGlobals "is_entry" = some (some (.ref a_is_entry)))
    (l_is_entry : K.lookup a_is_entry = some ⟨oc_is_entry, od_is_entry, .func (PySem.W.fnOf "is_entry" "is_entry" (defArgs s_is_entry) (defBody s_is_entry) (defScope s_is_entry) .none kV_is_entry dc_is_entry pm_is_entry an_is_entry cd_is_entry ct_is_entry), sl_is_entry⟩)
    (c_is_entry : PySem.W.codeIn K cd_is_entry "is_entry" = true)
    (k_is_entry : PySem.W.keepIn K (.ref a_is_entry) = true)
    (n_is_machine : PySem.W.nsIn K mainGlobals "is_machine" = some (some (.ref a_is_machine)))
    (l_is_machine : K.lookup a_is_machine = some ⟨oc_is_machine, od_is_machine, .func (PySem.W.fnOf "is_machine" "is_machine" (defArgs s_is_machine) (defBody s_is_machine) (defScope s_is_machine) .none kV_is_machine dc_is_machine pm_is_machine an_is_machine cd_is_machine ct_is_machine), sl_is_machine⟩)
    (c_is_machine : PySem.W.codeIn K cd_is_machine "is_machine" = true)
    (k_is_machine : PySem.W.keepIn K (.ref a_is_machine) = true)
    (n_must_machine : PySem.W.nsIn K mainGlobals "must_machine" = some (some (.ref a_must_machine)))
    (l_must_machine : K.lookup a_must_machine = some ⟨oc_must_machine, od_must_machine, .func (PySem.W.fnOf "must_machine" "must_machine" (defArgs s_must_machine) (defBody s_must_machine) (defScope s_must_machine) .none kV_must_machine dc_must_machine pm_must_machine an_must_machine cd_must_machine ct_must_machine), sl_must_machine⟩)
    (c_must_machine : PySem.W.codeIn K cd_must_machine "must_machine" = true)
    (k_must_machine : PySem.W.keepIn K (.ref a_must_machine) = true)
    (n_Goer_init : PySem.W.findIn K (.ref C_Goer) "__init__" = some (some (.ref a_Goer_init)))
    (i_Goer_init : PySem.W.isFn K (.ref a_Goer_init) = true)
    (l_Goer_init : K.lookup a_Goer_init = some ⟨oc_Goer_init, od_Goer_init, .func (PySem.W.fnOf "__init__" "Goer.__init__" (defArgs s_Goer_init) (defBody s_Goer_init) (defScope s_Goer_init) .none kV_Goer_init dc_Goer_init pm_Goer_init an_Goer_init cd_Goer_init ct_Goer_init), sl_Goer_init⟩)
    (c_Goer_init : PySem.W.codeIn K cd_Goer_init "Goer.__init__" = true)
    (k_Goer_init : PySem.W.keepIn K (.ref a_Goer_init) = true)
    (n_Goer_entry : PySem.W.findIn K (.ref C_Goer) "entry" = some (some (.ref a_Goer_entry)))
    (i_Goer_entry : PySem.W.isFn K (.ref a_Goer_entry) = true)
    (l_Goer_entry : K.lookup a_Goer_entry = some ⟨oc_Goer_entry, od_Goer_entry, .func (PySem.W.fnOf "entry" "Goer.entry" (defArgs s_Goer_entry) (defBody s_Goer_entry) (defScope s_Goer_entry) .none kV_Goer_entry dc_Goer_entry pm_Goer_entry an_Goer_entry cd_Goer_entry ct_Goer_entry), sl_Goer_entry⟩)
    (c_Goer_entry : PySem.W.codeIn K cd_Goer_entry "Goer.entry" = true)
    (k_Goer_entry : PySem.W.keepIn K (.ref a_Goer_entry) = true)
    (n_Goer_step : PySem.W.findIn K (.ref C_Goer) "step" = some (some (.ref a_Goer_step)))
    (i_Goer_step : PySem.W.isFn K (.ref a_Goer_step) = true)
    (l_Goer_step : K.lookup a_Goer_step = some ⟨oc_Goer_step, od_Goer_step, .func (PySem.W.fnOf "step" "Goer.step" (defArgs s_Goer_step) (defBody s_Goer_step) (defScope s_Goer_step) .none kV_Goer_step dc_Goer_step pm_Goer_step an_Goer_step cd_Goer_step ct_Goer_step), sl_Goer_step⟩)
    (c_Goer_step : PySem.W.codeIn K cd_Goer_step "Goer.step" = true)
    (k_Goer_step : PySem.W.keepIn K (.ref a_Goer_step) = true)
    (n_met_entries : PySem.W.nsIn K mainGlobals "met_entries" = some (some (.ref a_met_entries)))
    (l_met_entries : K.lookup a_met_entries = some ⟨oc_met_entries, od_met_entries, .func (PySem.W.fnOf "met_entries" "met_entries" (defArgs s_met_entries) (defBody s_met_entries) (defScope s_met_entries) .none kV_met_entries dc_met_entries pm_met_entries an_met_entries cd_met_entries ct_met_entries), sl_met_entries⟩)
    (c_met_entries : PySem.W.codeIn K cd_met_entries "met_entries" = true)
    (k_met_entries : PySem.W.keepIn K (.ref a_met_entries) = true)
    (n_gone : PySem.W.nsIn K mainGlobals "gone" = some (some (.ref a_gone)))
    (l_gone : K.lookup a_gone = some ⟨oc_gone, od_gone, .func (PySem.W.fnOf "gone" "gone" (defArgs s_gone) (defBody s_gone) (defScope s_gone) .none kV_gone dc_gone pm_gone an_gone cd_gone ct_gone), sl_gone⟩)
    (c_gone : PySem.W.codeIn K cd_gone "gone" = true)
    (k_gone : PySem.W.keepIn K (.ref a_gone) = true)
    (n_told_strip : PySem.W.nsIn K mainGlobals "told_strip" = some (some (.ref a_told_strip)))
    (l_told_strip : K.lookup a_told_strip = some ⟨oc_told_strip, od_told_strip, .func (PySem.W.fnOf "told_strip" "told_strip" (defArgs s_told_strip) (defBody s_told_strip) (defScope s_told_strip) .none kV_told_strip dc_told_strip pm_told_strip an_told_strip cd_told_strip ct_told_strip), sl_told_strip⟩)
    (c_told_strip : PySem.W.codeIn K cd_told_strip "told_strip" = true)
    (k_told_strip : PySem.W.keepIn K (.ref a_told_strip) = true)
    (n_Goer_setup : PySem.W.findIn K (.ref C_Goer) "setup" = some (some (.ref a_Goer_setup)))
    (i_Goer_setup : PySem.W.isFn K (.ref a_Goer_setup) = true)
    (l_Goer_setup : K.lookup a_Goer_setup = some ⟨oc_Goer_setup, od_Goer_setup, .func (PySem.W.fnOf "setup" "Goer.setup" (defArgs s_Goer_setup) (defBody s_Goer_setup) (defScope s_Goer_setup) .none kV_Goer_setup dc_Goer_setup pm_Goer_setup an_Goer_setup cd_Goer_setup ct_Goer_setup), sl_Goer_setup⟩)
    (c_Goer_setup : PySem.W.codeIn K cd_Goer_setup "Goer.setup" = true)
    (k_Goer_setup : PySem.W.keepIn K (.ref a_Goer_setup) = true)
    (n_run : PySem.W.nsIn K mainGlobals "run" = some (some (.ref a_run)))
    (l_run : K.lookup a_run = some ⟨oc_run, od_run, .func (PySem.W.fnOf "run" "run" (defArgs s_run) (defBody s_run) (defScope s_run) .none kV_run dc_run pm_run an_run cd_run ct_run), sl_run⟩)
    (c_run : PySem.W.codeIn K cd_run "run" = true)
    (k_run : PySem.W.keepIn K (.ref a_run) = true)
    (n_L_kept : PySem.W.nsIn K mainGlobals "_law_kept" = some (some (.ref a_L_kept)))
    (l_L_kept : K.lookup a_L_kept = some ⟨oc_L_kept, od_L_kept, .func (PySem.W.fnOf "_law_kept" "_law_kept" (defArgs s_L_kept) (defBody s_L_kept) (defScope s_L_kept) .none kV_L_kept dc_L_kept pm_L_kept an_L_kept cd_L_kept ct_L_kept), sl_L_kept⟩)
    (c_L_kept : PySem.W.codeIn K cd_L_kept "_law_kept" = true)
    (k_L_kept : PySem.W.keepIn K (.ref a_L_kept) = true)
    (n_parts_from : PySem.W.nsIn K mainGlobals "parts_from" = some (some (.ref a_parts_from)))
    (l_parts_from : K.lookup a_parts_from = some ⟨oc_parts_from, od_parts_from, .func (PySem.W.fnOf "parts_from" "parts_from" (defArgs s_parts_from) (defBody s_parts_from) (defScope s_parts_from) .none kV_parts_from dc_parts_from pm_parts_from an_parts_from cd_parts_from ct_parts_from), sl_parts_from⟩)
    (c_parts_from : PySem.W.codeIn K cd_parts_from "parts_from" = true)
    (k_parts_from : PySem.W.keepIn K (.ref a_parts_from) = true)
    (n_visits : PySem.W.nsIn K mainGlobals "visits" = some (some (.ref a_visits)))
    (l_visits : K.lookup a_visits = some ⟨oc_visits, od_visits, .func (PySem.W.fnOf "visits" "visits" (defArgs s_visits) (defBody s_visits) (defScope s_visits) .none kV_visits dc_visits pm_visits an_visits cd_visits ct_visits), sl_visits⟩)
    (c_visits : PySem.W.codeIn K cd_visits "visits" = true)
    (k_visits : PySem.W.keepIn K (.ref a_visits) = true)
    (n_records : PySem.W.nsIn K mainGlobals "records" = some (some (.ref a_records)))
    (l_records : K.lookup a_records = some ⟨oc_records, od_records, .func (PySem.W.fnOf "records" "records" (defArgs s_records) (defBody s_records) (defScope s_records) .none kV_records dc_records pm_records an_records cd_records ct_records), sl_records⟩)
    (c_records : PySem.W.codeIn K cd_records "records" = true)
    (k_records : PySem.W.keepIn K (.ref a_records) = true)
    (n_touched : PySem.W.nsIn K mainGlobals "touched" = some (some (.ref a_touched)))
    (l_touched : K.lookup a_touched = some ⟨oc_touched, od_touched, .func (PySem.W.fnOf "touched" "touched" (defArgs s_touched) (defBody s_touched) (defScope s_touched) .none kV_touched dc_touched pm_touched an_touched cd_touched ct_touched), sl_touched⟩)
    (c_touched : PySem.W.codeIn K cd_touched "touched" = true)
    (k_touched : PySem.W.keepIn K (.ref a_touched) = true)
    (n_L_places : PySem.W.nsIn K mainGlobals "_law_places" = some (some (.ref a_L_places)))
    (l_L_places : K.lookup a_L_places = some ⟨oc_L_places, od_L_places, .func (PySem.W.fnOf "_law_places" "_law_places" (defArgs s_L_places) (defBody s_L_places) (defScope s_L_places) .none kV_L_places dc_L_places pm_L_places an_L_places cd_L_places ct_L_places), sl_L_places⟩)
    (c_L_places : PySem.W.codeIn K cd_L_places "_law_places" = true)
    (k_L_places : PySem.W.keepIn K (.ref a_L_places) = true)
    (n_law : PySem.W.nsIn K mainGlobals "law" = some (some (.ref a_law)))
    (l_law : K.lookup a_law = some ⟨oc_law, od_law, .func (PySem.W.fnOf "law" "law" (defArgs s_law) (defBody s_law) (defScope s_law) .none kV_law dc_law pm_law an_law cd_law ct_law), sl_law⟩)
    (c_law : PySem.W.codeIn K cd_law "law" = true)
    (k_law : PySem.W.keepIn K (.ref a_law) = true)
    (pg_Goer : PySem.W.plainGet K C_Goer Str.empty = true)
    (hd_Goer : PySem.W.hasDictIn K C_Goer = true)
    (po_Goer : PySem.W.plainOver K C_Goer = true)
    (sa_Goer : PySem.W.findIn K (.ref C_Goer) "__setattr__" = some (some (.builtin "object.__setattr__")))
    (mk_Goer : PySem.W.makesIn K C_Goer = true)
    (kc_Goer : PySem.W.keepIn K (.ref C_Goer) = true)
    (f_Goer_table : PySem.W.findIn K (.ref C_Goer) "table" = some none)
    (f_Goer_row : PySem.W.findIn K (.ref C_Goer) "row" = some none)
    (f_Goer_spot : PySem.W.findIn K (.ref C_Goer) "spot" = some none)
    (f_Goer_signs : PySem.W.findIn K (.ref C_Goer) "signs" = some none)
    (f_Goer_steps : PySem.W.findIn K (.ref C_Goer) "steps" = some none)
    (n_MOST_ROWS : PySem.W.nsIn K mainGlobals "MOST_ROWS" = some (some (.int 4 tk_MOST_ROWS)))
    (n_MOST_SIGNS : PySem.W.nsIn K mainGlobals "MOST_SIGNS" = some (some (.int 4 tk_MOST_SIGNS)))
    (z_range : PySem.W.nsIn K mainGlobals "range" = some none)
    (z_len : PySem.W.nsIn K mainGlobals "len" = some none)
    (z_abs : PySem.W.nsIn K mainGlobals "abs" = some none)
    (z_all : PySem.W.nsIn K mainGlobals "all" = some none)
    (z_dict : PySem.W.nsIn K mainGlobals "dict" = some none)
    (z_sorted : PySem.W.nsIn K mainGlobals "sorted" = some none)
    (z_int : PySem.W.nsIn K mainGlobals "int" = some none)
    (z_max : PySem.W.nsIn K mainGlobals "max" = some none)
    (z_min : PySem.W.nsIn K mainGlobals "min" = some none)
    (z_list : PySem.W.nsIn K mainGlobals "list" = some none)
    (z_sum : PySem.W.nsIn K mainGlobals "sum" = some none)
    (z_set : PySem.W.nsIn K mainGlobals "set" = some none) :
    ∃ fd : FuncData, (∀ (s : Shared) (v : Value), BindsTo s fd ⟨[v], []⟩ [("_law_script", v)]) ∧ ∀ base : Heap, K.In base → base.Ns mainGlobals mg → FnOk l.prog w K mg base CX0 6 fa fd ["_law_script"] (sp_law K) :=
  all_mk X G hfa (all_tx X G n_NoMachine n_Goer n_L_mixed l_L_mixed c_L_mixed k_L_mixed n_L_purse l_L_purse c_L_purse k_L_purse n_L_draw l_L_draw c_L_draw k_L_draw n_L_machine l_L_machine c_L_machine k_L_machine n_L_late l_L_late c_L_late k_L_late n_L_led l_L_led c_L_led k_L_led n_L_any l_L_any c_L_any k_L_any n_is_entry l_is_entry c_is_entry k_is_entry n_is_machine l_is_machine c_is_machine k_is_machine n_must_machine l_must_machine c_must_machine k_must_machine n_Goer_init i_Goer_init l_Goer_init c_Goer_init k_Goer_init n_Goer_entry i_Goer_entry l_Goer_entry c_Goer_entry k_Goer_entry n_Goer_step i_Goer_step l_Goer_step c_Goer_step k_Goer_step n_met_entries l_met_entries c_met_entries k_met_entries n_gone l_gone c_gone k_gone n_told_strip l_told_strip c_told_strip k_told_strip n_Goer_setup i_Goer_setup l_Goer_setup c_Goer_setup k_Goer_setup n_run l_run c_run k_run n_L_kept l_L_kept c_L_kept k_L_kept n_parts_from l_parts_from c_parts_from k_parts_from n_visits l_visits c_visits k_visits n_records l_records c_records k_records n_touched l_touched c_touched k_touched n_L_places l_L_places c_L_places k_L_places n_law l_law c_law k_law pg_Goer hd_Goer po_Goer sa_Goer mk_Goer kc_Goer f_Goer_table f_Goer_row f_Goer_spot f_Goer_signs f_Goer_steps n_MOST_ROWS n_MOST_SIGNS z_range z_len z_abs z_all z_dict z_sorted z_int z_max z_min z_list z_sum z_set) ⟨_, _, _, _, _, _, rfl⟩
end E
open PySem PySem.W PyProof.Rows
set_option maxRecDepth 100000 in
set_option maxHeartbeats 0 in
theorem PySem.Challenge.cw_endnever_k29_whole_meetings_and_runs_holds : PySem.Challenge.rw_endnever_k29_whole_meetings_and_runs.Holds := by
  w_on; o_law; k_head; (case hw => w_witness2)
  k_fill
  refine E.walk (l := PySem.Challenge.rw_endnever_k29_whole_meetings_and_runs) rfl rfl (fun w h Y => PySem.W.kIn_of Y) ?F
  case F =>
    intro w mg fa h KX G hmg
    refine' E.all_go KX G hmg ?n_NoMachine ?n_Goer ?n_L_mixed ?l_L_mixed ?c_L_mixed ?k_L_mixed ?n_L_purse ?l_L_purse ?c_L_purse ?k_L_purse ?n_L_draw ?l_L_draw ?c_L_draw ?k_L_draw ?n_L_machine ?l_L_machine ?c_L_machine ?k_L_machine ?n_L_late ?l_L_late ?c_L_late ?k_L_late ?n_L_led ?l_L_led ?c_L_led ?k_L_led ?n_L_any ?l_L_any ?c_L_any ?k_L_any ?n_is_entry ?l_is_entry ?c_is_entry ?k_is_entry ?n_is_machine ?l_is_machine ?c_is_machine ?k_is_machine ?n_must_machine ?l_must_machine ?c_must_machine ?k_must_machine ?n_Goer_init ?i_Goer_init ?l_Goer_init ?c_Goer_init ?k_Goer_init ?n_Goer_entry ?i_Goer_entry ?l_Goer_entry ?c_Goer_entry ?k_Goer_entry ?n_Goer_step ?i_Goer_step ?l_Goer_step ?c_Goer_step ?k_Goer_step ?n_met_entries ?l_met_entries ?c_met_entries ?k_met_entries ?n_gone ?l_gone ?c_gone ?k_gone ?n_told_strip ?l_told_strip ?c_told_strip ?k_told_strip ?n_Goer_setup ?i_Goer_setup ?l_Goer_setup ?c_Goer_setup ?k_Goer_setup ?n_run ?l_run ?c_run ?k_run ?n_L_kept ?l_L_kept ?c_L_kept ?k_L_kept ?n_parts_from ?l_parts_from ?c_parts_from ?k_parts_from ?n_visits ?l_visits ?c_visits ?k_visits ?n_records ?l_records ?c_records ?k_records ?n_touched ?l_touched ?c_touched ?k_touched ?n_L_places ?l_L_places ?c_L_places ?k_L_places ?n_law ?l_law ?c_law ?k_law ?pg_Goer ?hd_Goer ?po_Goer ?sa_Goer ?mk_Goer ?kc_Goer ?f_Goer_table ?f_Goer_row ?f_Goer_spot ?f_Goer_signs ?f_Goer_steps ?n_MOST_ROWS ?n_MOST_SIGNS ?z_range ?z_len ?z_abs ?z_all ?z_dict ?z_sorted ?z_int ?z_max ?z_min ?z_list ?z_sum ?z_set
    (case n_NoMachine => k_is); (case n_Goer => k_is); (case n_L_mixed => k_is); (case l_L_mixed => k_is); (case c_L_mixed => k_is); (case k_L_mixed => k_is); (case n_L_purse => k_is); (case l_L_purse => k_is)
    (case c_L_purse => k_is); (case k_L_purse => k_is); (case n_L_draw => k_is); (case l_L_draw => k_is); (case c_L_draw => k_is); (case k_L_draw => k_is); (case n_L_machine => k_is); (case l_L_machine => k_is)
    (case c_L_machine => k_is); (case k_L_machine => k_is); (case n_L_late => k_is); (case l_L_late => k_is); (case c_L_late => k_is); (case k_L_late => k_is); (case n_L_led => k_is); (case l_L_led => k_is)
    (case c_L_led => k_is); (case k_L_led => k_is); (case n_L_any => k_is); (case l_L_any => k_is); (case c_L_any => k_is); (case k_L_any => k_is); (case n_is_entry => k_is); (case l_is_entry => k_is)
    (case c_is_entry => k_is); (case k_is_entry => k_is); (case n_is_machine => k_is); (case l_is_machine => k_is); (case c_is_machine => k_is); (case k_is_machine => k_is); (case n_must_machine => k_is); (case l_must_machine => k_is)
    (case c_must_machine => k_is); (case k_must_machine => k_is); (case n_Goer_init => k_is); (case i_Goer_init => k_is); (case l_Goer_init => k_is); (case c_Goer_init => k_is); (case k_Goer_init => k_is); (case n_Goer_entry => k_is)
    (case i_Goer_entry => k_is); (case l_Goer_entry => k_is); (case c_Goer_entry => k_is); (case k_Goer_entry => k_is); (case n_Goer_step => k_is); (case i_Goer_step => k_is); (case l_Goer_step => k_is); (case c_Goer_step => k_is)
    (case k_Goer_step => k_is); (case n_met_entries => k_is); (case l_met_entries => k_is); (case c_met_entries => k_is); (case k_met_entries => k_is); (case n_gone => k_is); (case l_gone => k_is); (case c_gone => k_is)
    (case k_gone => k_is); (case n_told_strip => k_is); (case l_told_strip => k_is); (case c_told_strip => k_is); (case k_told_strip => k_is); (case n_Goer_setup => k_is); (case i_Goer_setup => k_is); (case l_Goer_setup => k_is)
    (case c_Goer_setup => k_is); (case k_Goer_setup => k_is); (case n_run => k_is); (case l_run => k_is); (case c_run => k_is); (case k_run => k_is); (case n_L_kept => k_is); (case l_L_kept => k_is)
    (case c_L_kept => k_is); (case k_L_kept => k_is); (case n_parts_from => k_is); (case l_parts_from => k_is); (case c_parts_from => k_is); (case k_parts_from => k_is); (case n_visits => k_is); (case l_visits => k_is)
    (case c_visits => k_is); (case k_visits => k_is); (case n_records => k_is); (case l_records => k_is); (case c_records => k_is); (case k_records => k_is); (case n_touched => k_is); (case l_touched => k_is)
    (case c_touched => k_is); (case k_touched => k_is); (case n_L_places => k_is); (case l_L_places => k_is); (case c_L_places => k_is); (case k_L_places => k_is); (case n_law => k_is); (case l_law => k_is)
    (case c_law => k_is); (case k_law => k_is); (case pg_Goer => k_is); (case hd_Goer => k_is); (case po_Goer => k_is); (case sa_Goer => k_is); (case mk_Goer => k_is); (case kc_Goer => k_is)
    (case f_Goer_table => k_is); (case f_Goer_row => k_is); (case f_Goer_spot => k_is); (case f_Goer_signs => k_is); (case f_Goer_steps => k_is); (case n_MOST_ROWS => k_is); (case n_MOST_SIGNS => k_is); (case z_range => k_is)
    (case z_len => k_is); (case z_abs => k_is); (case z_all => k_is); (case z_dict => k_is); (case z_sorted => k_is); (case z_int => k_is); (case z_max => k_is); (case z_min => k_is)
    (case z_list => k_is); (case z_sum => k_is); (case z_set => k_is)
#print axioms PySem.Challenge.cw_endnever_k29_whole_meetings_and_runs_holds
