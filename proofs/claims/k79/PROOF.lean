import PyProof.Rows.All
import Wide.All
import OpenK.AllK
import Wide.FinOn
import HandS.ForMost
import HandS.TupAny
import HandS.TupMul
import HandS.Text
import HandS.Steps
import HandS.Wide
import HandS.Deep
import HandS.Style
import HandS.Small
import HandS.Conv
import HandS.WordsDict
import HandS.TupLen
import HandS.More
import HandS.IsInst
import HandS.SortInts
import HandS.DictTup
import HandS.DictComp
import KE.KDictDisplayH
import HandS.StrMore
import KE.KStateDown
import Lean
import HandS.Ends
import HandS.Words
import HandS.WordsExc
import HandS.Defaults
import HandS.Head0
import HandS.Head1
import HandS.Head2
import HandS.HeadEnd
import HandS.HeadHook1
import HandS.HeadHook2
import HandS.Dict
import KE.KDictPairs
import HandS.CallLocal
import HandS.ExcCtx
import HandS.ExcInit
import HandS.HotCalls
import HandS.ExcField
import KE.KExcIs
import PySem.Challenge.RW_provedbest_k79_errors_stand_beside_one_a
section
set_option Elab.async false
set_option linter.all false
set_option maxRecDepth 100000
set_option maxHeartbeats 4000000
/-! RfT: new tuples, laid with their objects (which have no dict of their own). -/
namespace Rf
open PySem PySem.Spec PyProof.Rows L2

/-- a tuple with its object -/
abbrev Tob (o : Obj) (vs : List V) : HO := .frz o (.tup vs)
section
variable {X : Cx} {pins : List (Addr × Obj)} {σ : L2.St} {H : Hp} {s : Shared}
/-- a new tuple behind all that stands -/
theorem lay_tup {vs : List V} {us : List Value} {h : Heap} {tk : Nat} (I : Inv X pins σ H { s with heap := h }) (z : vs.length ≤ sizeLine) (r : Vals vs us) :
    ∃ o : Obj, o.dict = none ∧ H h.objs.size = none ∧ Inv X pins σ (upd H h.objs.size (Tob o vs)) { s with heap := h.push { cls := .type "tuple", data := .seq us.toArray }, toks := tk } :=
  ⟨{ cls := .type "tuple", data := .seq us.toArray }, rfl, I.hok.fresh (Nat.le_refl _),
    I.laid (a := h.objs.size) (o := Tob { cls := .type "tuple", data := .seq us.toArray } vs) (h' := h.push { cls := .type "tuple", data := .seq us.toArray }) (t' := tk) (fun _ _ e => Heap.get?_push_of_some _ e) (Nat.le_refl _)
      (show ObjOk X.prog X.w _ _ _ (Tob _ vs) from ⟨Heap.get?_push_size _ rfl, z, us, r, IsTup.new _ _⟩)⟩
/-- what is asked where a tuple is laid -/
def NewT (vs : List V) (H : Hp) (Q : VK) : Prop := ∀ p o, H p = none → o.dict = none → Q (.ref p) (upd H p (Tob o vs))
theorem fin_tup {vs : List V} {us : List Value} {h : Heap} {tk : Nat} {Q : VK} (I : Inv X pins σ H { s with heap := h }) (z : vs.length ≤ sizeLine) (r : Vals vs us) (q : NewT vs H Q) :
    EP X pins σ Q (.ref h.objs.size) { s with heap := h.push { cls := .type "tuple", data := .seq us.toArray }, toks := tk } := by
  obtain ⟨o, d, n, J⟩ := lay_tup (tk := tk) I z r
  exact ⟨.ref h.objs.size, _, J, rfl, q _ o n d⟩
end
section
variable {X : Cx} {es : List Expr} {t : TA} {pos : Pos}
def tTupF (t : TA) : TE := fun σ H Q => t σ H fun vs H1 => vs.length ≤ sizeLine ∧ NewT vs H1 Q
theorem pe_tupF {x1} (h : PA X es t) : PE X (.Tuple es x1 pos) (tTupF t) :=
  ⟨fun pins s σ H Q I hq => wpAny_Tuple_spliced (thn (h.run pos pins s σ H _ I hq) fun us s1 ⟨xs, H1, I1, r, z, q⟩ => ⟨by rw [← r.length]; exact z, fin_tup (tk := s1.toks) I1 z r q⟩)⟩
/-- tuple(xs) of a list -/
theorem call_tupleF : CallR X (.type "tuple") (fun xs H Q => ∃ p ys, xs = [.ref p] ∧ ((SqL X.K H p ys ∧ NewT ys H Q) ∨ (SqT X.K H p ys ∧ Q (.ref p) H))) := fun pins s σ H xs us Q I r ⟨p, ys, e, h⟩ => by
  subst e
  obtain ⟨u, rfl, rx⟩ := vals1 r
  cases rx
  rcases h with ⟨hq, q⟩ | ⟨hq, q⟩
  · obtain ⟨its, rv, pl, z⟩ := I.list hq
    have n := rv.length
    exact call_tuple_list pl.isList (fun h' kp => fin_tup (tk := s.toks) (I.kept (t' := s.toks) kp) z rv q) (by simp only [List.size_toArray] <;> omega)
  · obtain ⟨its, _, pl, _⟩ := I.tuple hq
    exact call_tuple_same pl ⟨.ref p, H, I, rfl, q⟩
/-- a slice of a tuple -/
theorem sl_tupF : SlR X (fun x lo hi H Q => ∃ a xs, x = .ref a ∧ SqT X.K H a xs ∧ (HT.sIx xs.length 0 lo = 0 ∧ HT.sIx xs.length xs.length hi = xs.length → Q (.ref a) H) ∧
    (¬ (HT.sIx xs.length 0 lo = 0 ∧ HT.sIx xs.length xs.length hi = xs.length) → NewT (cutV xs lo hi) H Q)) := fun pins s σ H x v vl vu lo hi sl Q I rx hs pl pu ⟨a, xs, e, hx, q1, q2⟩ => by
  subst e
  cases rx
  obtain ⟨its, r, ht, z⟩ := I.tuple hx
  have n : its.toArray.size = xs.length := by rw [List.size_toArray]; exact r.length.symm
  by_cases hw : HT.sIx xs.length 0 lo = 0 ∧ HT.sIx xs.length xs.length hi = xs.length
  · exact ⟨"tuple", _, PyProof.Rows.slot_tuple_getitem.lookup, ht.typeIs, getItem_tuple_whole ht hs pl pu (by rw [n]; exact hw) ⟨.ref a, H, I, rfl, q1 hw⟩⟩
  · refine ⟨"tuple", _, PyProof.Rows.slot_tuple_getitem.lookup, ht.typeIs, HT.getItem_tuple_cut ht hs pl pu (by rw [n]; exact hw) ?_ (by rw [n]; exact z)⟩
    rw [n]
    exact fin_tup (tk := s.toks) I (Nat.le_trans (cutV_length xs lo hi) z) ((r.drop _).take _) (q2 hw)
/-- one tuple behind another -/
theorem op_catF : OpR X (binaryOp .Add) (fun x y H Q => ∃ a b xs ys, x = .ref a ∧ y = .ref b ∧ SqT X.K H a xs ∧ SqT X.K H b ys ∧ xs.length + ys.length ≤ sizeLine ∧
    (xs = [] → Q (.ref b) H) ∧ (xs ≠ [] → ys = [] → Q (.ref a) H) ∧ (xs ≠ [] → ys ≠ [] → NewT (xs ++ ys) H Q)) := fun pins s σ H x y v u Q I rx ry ⟨a, b, xs, ys, e1, e2, ha, hb, hz, q0, q1, q2⟩ => by
  subst e1 e2
  cases rx
  cases ry
  obtain ⟨as, r1, p1, _⟩ := I.tuple ha
  obtain ⟨bs, r2, p2, _⟩ := I.tuple hb
  by_cases hx : xs = []
  · subst hx
    cases r1
    exact cat_tup0 p1 p2 ⟨.ref b, H, I, rfl, q0 rfl⟩
  · refine HT.cat_tup p1 p2 (fun z => hx (r1.nil_iff.mp z)) (fun z => ⟨.ref a, H, I, rfl, q1 hx (r2.nil_iff.mp z)⟩) (fun z => ?_) (by rw [← r1.length, ← r2.length]; exact hz)
    have ne : ys ≠ [] := fun w => z (r2.nil_iff.mpr w)
    exact fin_tup (tk := s.toks) I (by rw [List.length_append]; exact hz) (r1.append r2) (q2 hx ne)
end

/-! ### t * n -/
theorem tuple_mul1 (l : Addr) (items : Array Value) (n : Nat) (dd : Option Addr) (sl : Array (Option Value)) (u : Tok) (one : (items.isEmpty || (1 : Int) == 1) = true) :
    Meets (Builtin.«tuple.__mul__» ⟨[.ref l, .int 1 u], []⟩) (fun _ R s => s.heap.get? l = some { cls := .type "tuple", dict := dd, data := .seq items n, slots := sl } ∧ R (.ok (.ret (Value.ref l))) s) :=
  .of_wp fun prog w A R s ⟨hl, h⟩ => by
    obtain ⟨hp, g, d, tk, os⟩ := s
    have ix := AutoSeq1.idx_int
    have low : (decide ((1 : Int) < -(2 ^ 63)) || decide ((1 : Int) ≥ 2 ^ 63)) = false := by decide
    wp_walk using wpAny_loadPart' hl
    repeat (first
      | (refine wpAny_ite_false (decide_eq_false (by rw [low]; decide)) ?_; wp_walk using wpAny_loadPart' hl)
      | (refine wpAny_ite_true (decide_eq_true one) ?_; wp_walk using wpAny_loadPart' hl))
    exact ⟨_, rfl, h⟩
theorem flat_size {α : Type} (xs : List α) : ∀ n : Nat, (List.replicate n xs).flatten.length = n * xs.length
  | 0 => by simp
  | n + 1 => by
    rw [List.replicate_succ, List.flatten_cons, List.length_append, flat_size xs n, Nat.add_mul, Nat.one_mul, Nat.add_comm]
theorem op_repF {X : Cx} : OpR X (binaryOp .Mult) (fun x y H Q => ∃ l k xs, x = .ref l ∧ y = .int k ∧ SqT X.K H l xs ∧ xs ≠ [] ∧ 1 ≤ k ∧ k ≤ 1000 ∧ xs.length ≤ 1000 ∧ (k = 1 → Q (.ref l) H) ∧ (k ≠ 1 → NewT (List.replicate k.toNat xs).flatten H Q)) :=
  fun pins s σ H x y v u Q I rx ry ⟨l, k, xs, e1, e2, hT, some1, low, high, few, q1, q2⟩ => by
  subst e1 e2
  cases rx
  obtain ⟨t, rfl⟩ := ry
  obtain ⟨its, r, ⟨⟨c, dd, data, sl⟩, ho, hc, n, hd⟩, _⟩ := I.tuple hT
  simp only at hc hd
  subst hc hd
  have len := r.length
  have some2 : its.toArray.isEmpty = false := by
    cases its with
    | nil => exact absurd (List.eq_nil_of_length_eq_zero len) some1
    | cons a b => rfl
  have size : its.toArray.size = xs.length := by rw [List.size_toArray, len]
  by_cases one : k = 1
  · subst one
    exact wpAny_binaryOp_repeat_ref (T := "tuple") (U := "int") (by decide) ⟨_, ho, rfl⟩ (fun s' => typeIs_int s' 1 t) noFill_tuple_mul F.fills_int_mul F.slot_int_rmul repeat_tuple F.slot_int_index.lookup
      (call_meets F.slot_int_rmul (typeIs_int s 1 t) F.entry_int_rmul (F.args_int_rmul_2 _ _) (int_rmul_tuple 1 t l its.toArray n dd sl)
        ⟨ho, rfl, ⟨_, ho, rfl⟩, call_meets F.slot_tuple_mul ⟨_, ho, rfl⟩ F.entry_tuple_mul (F.args_tuple_mul_2 _ _) (tuple_mul1 l its.toArray n dd sl t (by simp)) ⟨ho, ⟨.ref l, H, I, rfl, q1 rfl⟩⟩⟩)
  · have many : ((xs.length : Nat) : Int) * k ≤ 1000000 := by
      have a := Int.mul_le_mul_of_nonneg_right (show ((xs.length : Nat) : Int) ≤ 1000 by omega) (show (0 : Int) ≤ k by omega)
      omega
    have flat : k.toNat * xs.length ≤ 1000000 := by
      have a := Nat.mul_le_mul (show k.toNat ≤ 1000 by omega) few
      omega
    have fits : (List.replicate k.toNat its).flatten.length ≤ sizeLine := by
      rw [flat_size, ← len, sizeLine_eq]
      omega
    have w0 : (decide (k < -(2 ^ 63)) || decide (k ≥ 2 ^ 63)) = false := by
      rw [decide_eq_false (show ¬ k < -(2 ^ 63) by omega), decide_eq_false (show ¬ k ≥ 2 ^ 63 by omega)]
      rfl
    have w1 : (its.toArray.isEmpty || k == 1) = false := by
      rw [some2, Bool.false_or, beq_eq_false_iff_ne]
      exact one
    have w2 : (decide (k ≤ 0) || its.toArray.isEmpty) = false := by
      rw [some2, decide_eq_false (show ¬ k ≤ 0 by omega)]
      rfl
    have w4 : Builtin.Tuple.tupleTooMany (((its.toArray.size : Nat) : Int) * k) = false := by
      unfold Builtin.Tuple.tupleTooMany
      rw [sizeLine_eq, size]
      exact decide_eq_false (by omega)
    refine wpAny_binaryOp_repeat_ref (T := "tuple") (U := "int") (by decide) ⟨_, ho, rfl⟩ (fun s' => typeIs_int s' k t) noFill_tuple_mul F.fills_int_mul F.slot_int_rmul repeat_tuple F.slot_int_index.lookup
      (call_meets F.slot_int_rmul (typeIs_int s k t) F.entry_int_rmul (F.args_int_rmul_2 _ _) (int_rmul_tuple k t l its.toArray n dd sl)
        ⟨ho, rfl, ⟨_, ho, rfl⟩, call_meets F.slot_tuple_mul ⟨_, ho, rfl⟩ F.entry_tuple_mul (F.args_tuple_mul_2 _ _) (tuple_mulW l its.toArray n dd sl k t w0 w1 w2 (by rw [size]; omega) w4 (by rw [size_rep, List.size_toArray]; exact fits)) ⟨ho, ?_⟩⟩)
    rw [size_rep]
    exact fin_tup (tk := s.toks) I (by rw [flat_size, sizeLine_eq]; omega) (r.rep k.toNat) (q2 one)

/-! ### text.partition -/
theorem fin_three {X : Cx} {pins : List (Addr × Obj)} {σ : L2.St} {H : Hp} {s : Shared} {Q : VK} {x y z : Str} {t u v : Tok} {k : Nat} (I : Inv X pins σ H s) (h : NewT [.str x, .str y, .str z] H Q) :
    EP X pins σ Q (.ref s.heap.objs.size) { s with toks := k, heap := s.heap.push { cls := .type "tuple", data := .seq [Value.str x t, .str y u, .str z v].toArray } } :=
  fin_tup (tk := k) (vs := [V.str x, .str y, .str z]) (us := [Value.str x t, .str y u, .str z v]) I (by show 3 ≤ sizeLine; decide) (.cons ⟨t, rfl⟩ (.cons ⟨u, rfl⟩ (.cons ⟨v, rfl⟩ .nil))) h
theorem mt_partF {X : Cx} : MtR X "str.partition" (fun x xs H Q => ∃ a b, x = .str a ∧ xs = [.str b] ∧ (b.length == 0) = false ∧ a.length ≤ sizeLine ∧ NewT [.str (Txt.partition a b).1, .str (Txt.partition a b).2.1, .str (Txt.partition a b).2.2] H Q) :=
  fun pins s σ H x xs v us Q I rx rs ⟨a, b, e1, e2, hb, z, h⟩ => by
  subst e1 e2
  obtain ⟨t, rfl⟩ := rx
  obtain ⟨w, rfl, r⟩ := vals1 rs
  obtain ⟨u, rfl⟩ := r
  refine call_meets F.slot_str_partition (typeIs_str _ _ _) F.entry_str_partition (F.args_str_partition_2 _ _) (meets_str_partition a b t u hb z) ?_
  revert h
  unfold Txt.partition
  cases Builtin.Str.occurrences a b 0 a.length 1 with
  | nil => exact fun h => fin_three I h
  | cons i r => exact fun h => fin_three I h
end Rf
end

section
set_option Elab.async false
set_option linter.all false
set_option maxRecDepth 100000
set_option maxHeartbeats 4000000
/-! Rf0: data, the store, what stands for what, what a program's part comes to. -/
namespace Rf
open PySem L2

/-- a value as data: tuples and lists by their items -/
inductive P where
  | non | bl (b : Bool) | int (i : Int) | str (x : Str) | fn (i : Nat) | tup (xs : List P) | lst (xs : List P) | scr (ns : List Int) | tk (ks : List Key) | ty (n : String)
/-- .. and what changes, by its number in the store; tuples and lists that bear such -/
inductive D where
  | p (x : P) | loc (n : Nat) | mix (xs : List D) | mxl (xs : List D)
/-- what changes -/
inductive AO where
  | lst (xs : List D) | dk (kvs : List (Key × D)) | dt (kvs : List (List Key × D)) | fk (kvs : List (Key × D)) | ft (kvs : List (List Key × D)) | ins (c : Nat) (fs : List (Str × D))
abbrev Sto := List AO
abbrev Slots := List (Option D)
/-- tuples of at most three texts are no constants of the module (they may be keys) -/
def isStrP : P → Bool
  | .str _ => true
  | _ => false
def ctb (xs : List P) : Bool := !(xs.all isStrP && decide (xs.length ≤ 3))
def KT (K : PySem.W.Frag) (a : Addr) (xs : List V) : Prop := ∃ (o : Obj) (its : Array Value) (n : Nat), K.lookup a = some o ∧ o.cls = .type "tuple" ∧ o.dict = none ∧ o.data = .seq its n ∧ its.size ≤ sizeLine ∧ Vals xs its.toList
def KL (K : PySem.W.Frag) (a : Addr) (xs : List V) : Prop := ∃ (o : Obj) (its : Array Value) (n : Nat), K.lookup a = some o ∧ o.cls = .type "list" ∧ o.dict = none ∧ o.data = .seq its n ∧ its.size ≤ sizeLine ∧ Vals xs its.toList
/-- a tuple that has no dict of its own -/
def Tt (H : Hp) (p : Addr) (vs : List V) : Prop := ∃ o : Obj, o.dict = none ∧ H p = some (Tob o vs)
theorem Tt.sqt {K : PySem.W.Frag} {H : Hp} {p : Addr} {vs : List V} (h : Tt H p vs) : SqT K H p vs := let ⟨o, _, e⟩ := h; .inl (.inr ⟨o, e⟩)
def Tp (K : PySem.W.Frag) (H : Hp) (p : Addr) (xs : List P) (vs : List V) : Prop := Tt H p vs ∨ (ctb xs = true ∧ KT K p vs)
theorem Tp.sqt {K : PySem.W.Frag} {H : Hp} {p : Addr} {xs : List P} {vs : List V} (h : Tp K H p xs vs) : SqT K H p vs := by
  rcases h with h | ⟨_, o, its, n, h1, h2, _, h3⟩
  · exact h.sqt
  · exact .inr ⟨o, its, n, h1, h2, h3⟩
def Sc (K : PySem.W.Frag) (H : Hp) (p : Addr) (ns : List Int) : Prop := (∃ o, H p = some (.frz o (.lst (ns.map V.int)))) ∨ KL K p (ns.map V.int)
theorem Sc.sql {K : PySem.W.Frag} {H : Hp} {p : Addr} {ns : List Int} (h : Sc K H p ns) : SqL K H p (ns.map V.int) := by
  rcases h with ⟨o, h⟩ | h
  · exact .inl (.inr ⟨o, h⟩)
  · exact .inr h
/-- what stands at a tracked place that changes -/
def Chg : HO → Prop
  | .lst _ => True
  | .dK _ => True
  | .dT _ => True
  | .ins _ _ _ => True
  | .frz _ (.dK _) => True
  | .frz _ (.dT _) => True
  | _ => False
/-- the written part, the defs' and the classes' places; what else is known of the heap -/
structure Gx where
  K : PySem.W.Frag
  fa : Nat → Addr
  ca : Nat → Addr
  inv : Hp → Prop
  st : ∀ {H H' : Hp}, inv H → (∀ a o, H a = some o → ¬ Chg o → H' a = some o) → inv H'

mutual
inductive RP (G : Gx) (B ρ : List Addr) (H : Hp) : P → V → Prop
  | non : RP G B ρ H .non .non
  | bl (b : Bool) : RP G B ρ H (.bl b) (.bl b)
  | int (i : Int) : RP G B ρ H (.int i) (.int i)
  | str (x : Str) : RP G B ρ H (.str x) (.str x)
  | fn (i : Nat) : RP G B ρ H (.fn i) (.ref (G.fa i))
  | tup {p : Addr} {xs : List P} {vs : List V} : Tp G.K H p xs vs → RPs G B ρ H xs vs → RP G B ρ H (.tup xs) (.ref p)
  | lst {p : Addr} {xs : List P} {vs : List V} : H p = some (.lst vs) → p ∉ B → p ∉ ρ → RPs G B ρ H xs vs → RP G B ρ H (.lst xs) (.ref p)
  | scr {p : Addr} {ns : List Int} : Sc G.K H p ns → RP G B ρ H (.scr ns) (.ref p)
  | ty (n : String) : RP G B ρ H (.ty n) (.ty n)
  | tk {p : Addr} {ks : List Key} : H p = some (.tup (ks.map kV)) → RP G B ρ H (.tk ks) (.ref p)
inductive RPs (G : Gx) (B ρ : List Addr) (H : Hp) : List P → List V → Prop
  | nil : RPs G B ρ H [] []
  | cons {d : P} {v : V} {ds : List P} {vs : List V} : RP G B ρ H d v → RPs G B ρ H ds vs → RPs G B ρ H (d :: ds) (v :: vs)
end
mutual
inductive RV (G : Gx) (B ρ : List Addr) (H : Hp) : D → V → Prop
  | p {x : P} {v : V} : RP G B ρ H x v → RV G B ρ H (.p x) v
  | loc {n : Nat} {a : Addr} : ρ[n]? = some a → RV G B ρ H (.loc n) (.ref a)
  | mix {p : Addr} {xs : List D} {vs : List V} : Tt H p vs → RVs G B ρ H xs vs → RV G B ρ H (.mix xs) (.ref p)
  | mxl {p : Addr} {xs : List D} {vs : List V} : H p = some (.lst vs) → p ∉ B → p ∉ ρ → RVs G B ρ H xs vs → RV G B ρ H (.mxl xs) (.ref p)
inductive RVs (G : Gx) (B ρ : List Addr) (H : Hp) : List D → List V → Prop
  | nil : RVs G B ρ H [] []
  | cons {d : D} {v : V} {ds : List D} {vs : List V} : RV G B ρ H d v → RVs G B ρ H ds vs → RVs G B ρ H (d :: ds) (v :: vs)
end
/-- pairs with equal keys -/
inductive RK {κ : Type} (G : Gx) (B ρ : List Addr) (H : Hp) : List (κ × D) → List (κ × V) → Prop
  | nil : RK G B ρ H [] []
  | cons {k : κ} {d : D} {v : V} {ds : List (κ × D)} {vs : List (κ × V)} : RV G B ρ H d v → RK G B ρ H ds vs → RK G B ρ H ((k, d) :: ds) ((k, v) :: vs)

def RO (G : Gx) (B ρ : List Addr) (H : Hp) (a : Addr) : AO → Prop
  | .lst xs => ∃ vs, H a = some (.lst vs) ∧ RVs G B ρ H xs vs
  | .dk kvs => ∃ vs, H a = some (.dK vs) ∧ RK G B ρ H kvs vs
  | .dt kvs => ∃ vs, H a = some (.dT vs) ∧ RK G B ρ H kvs vs
  | .fk kvs => ∃ o vs, H a = some (.frz o (.dK vs)) ∧ RK G B ρ H kvs vs
  | .ft kvs => ∃ o vs, H a = some (.frz o (.dT vs)) ∧ RK G B ρ H kvs vs
  | .ins c fs => ∃ dx vs, H a = some (.ins (G.ca c) dx vs) ∧ RK G B ρ H fs vs
structure Hs (G : Gx) (B ρ : List Addr) (S : Sto) (H : Hp) : Prop where
  len : ρ.length = S.length
  nd : ρ.Nodup
  bar : ∀ a ∈ B, ∃ o, H a = some o ∧ Chg o
  dis : ∀ a ∈ ρ, a ∉ B
  obj : ∀ (i : Nat) (a : Addr) (o : AO), ρ[i]? = some a → S[i]? = some o → RO G B ρ H a o
  inv : G.inv H
structure Fr (ρ : List Addr) (H : Hp) (ρ' : List Addr) (H' : Hp) : Prop where
  pre : ρ <+: ρ'
  keep : ∀ a o, H a = some o → a ∉ ρ → H' a = some o
  new : ∀ a ∈ ρ', a ∉ ρ → H a = none
  fz : ∀ a o u, H a = some (.frz o u) → H' a = some (.frz o u)

section
variable {G : Gx} {B ρ ρ1 ρ' : List Addr} {S S' : Sto} {H H1 H' : Hp}
theorem Fr.refl : Fr ρ H ρ H := ⟨List.prefix_refl _, fun _ _ h _ => h, fun _ h n => absurd h n, fun _ _ _ h => h⟩
theorem Fr.trans (a : Fr ρ H ρ1 H1) (b : Fr ρ1 H1 ρ' H') : Fr ρ H ρ' H' := by
  refine ⟨a.pre.trans b.pre, fun x o h n => ?_, fun x hx n => ?_, fun x o u h => b.fz x o u (a.fz x o u h)⟩
  · refine b.keep x o (a.keep x o h n) fun h1 => ?_
    rw [a.new x h1 n] at h
    cases h
  · cases e : H x with
    | none => rfl
    | some o =>
      have k := a.keep x o e n
      by_cases h1 : x ∈ ρ1
      · rw [a.new x h1 n] at e
        cases e
      · rw [b.new x hx h1] at k
        cases k
theorem pre_get {α : Type} {l l' : List α} {i : Nat} {x : α} (p : l <+: l') (h : l[i]? = some x) : l'[i]? = some x := by
  obtain ⟨t, rfl⟩ := p
  rw [List.getElem?_append_left (List.getElem?_eq_some_iff.mp h).1]
  exact h
theorem Hs.chg (h : Hs G B ρ S H) {a : Addr} (ha : a ∈ ρ) : ∃ o, H a = some o ∧ Chg o := by
  obtain ⟨i, hi, e⟩ := List.mem_iff_getElem.mp ha
  have hi' : i < S.length := by rw [← h.len]; exact hi
  have r := h.obj i a S[i] (by rw [List.getElem?_eq_getElem hi, e]) (List.getElem?_eq_getElem hi')
  cases q : S[i] with
  | lst xs => rw [q] at r; obtain ⟨vs, e, _⟩ := r; exact ⟨_, e, trivial⟩
  | dk xs => rw [q] at r; obtain ⟨vs, e, _⟩ := r; exact ⟨_, e, trivial⟩
  | dt xs => rw [q] at r; obtain ⟨vs, e, _⟩ := r; exact ⟨_, e, trivial⟩
  | fk xs => rw [q] at r; obtain ⟨o, vs, e, _⟩ := r; exact ⟨_, e, trivial⟩
  | ft xs => rw [q] at r; obtain ⟨o, vs, e, _⟩ := r; exact ⟨_, e, trivial⟩
  | ins c xs => rw [q] at r; obtain ⟨dx, vs, e, _⟩ := r; exact ⟨_, e, trivial⟩
theorem Hs.not (h : Hs G B ρ S H) {a : Addr} {o : HO} (e : H a = some o) (n : ¬ Chg o) : a ∉ ρ := fun ha => by
  obtain ⟨u, e', c⟩ := h.chg ha
  rw [e] at e'
  cases e'
  exact n c
theorem Fr.rd (f : Fr ρ H ρ' H') (h : Hs G B ρ S H) {p : Addr} {u : HO} (r : Rd H p u) (n : p ∉ ρ) : Rd H' p u := by
  rcases r with r | ⟨o, r⟩
  · exact .inl (f.keep _ _ r n)
  · exact .inr ⟨o, f.keep _ _ r n⟩
theorem rd_some {H : Hp} {p : Addr} {u : HO} (r : Rd H p u) : ∃ o, H p = some o := by
  rcases r with r | ⟨o, r⟩
  · exact ⟨_, r⟩
  · exact ⟨_, r⟩
theorem rd_not (h : Hs G B ρ S H) {p : Addr} {vs : List V} (r : Rd H p (.tup vs)) : p ∉ ρ := by
  rcases r with r | ⟨o, r⟩
  · exact h.not r id
  · exact h.not r id
theorem Fr.sqt (f : Fr ρ H ρ' H') (h : Hs G B ρ S H) {K : PySem.W.Frag} {p : Addr} {vs : List V} (r : SqT K H p vs) : SqT K H' p vs := by
  rcases r with r | r
  · exact .inl (f.rd h r (rd_not h r))
  · exact .inr r
theorem Fr.tt (f : Fr ρ H ρ' H') (h : Hs G B ρ S H) {p : Addr} {vs : List V} (r : Tt H p vs) : Tt H' p vs := let ⟨o, d, e⟩ := r; ⟨o, d, f.fz _ _ _ e⟩
theorem Fr.tp (f : Fr ρ H ρ' H') (h : Hs G B ρ S H) {K : PySem.W.Frag} {p : Addr} {xs : List P} {vs : List V} (r : Tp K H p xs vs) : Tp K H' p xs vs := r.imp (f.tt h) id
theorem Fr.sc (f : Fr ρ H ρ' H') (h : Hs G B ρ S H) {K : PySem.W.Frag} {p : Addr} {ns : List Int} (r : Sc K H p ns) : Sc K H' p ns := by
  rcases r with ⟨o, r⟩ | r
  · exact .inl ⟨o, f.keep _ _ r (h.not r id)⟩
  · exact .inr r
theorem Fr.out (f : Fr ρ H ρ' H') {p : Addr} {o : HO} (e : H p = some o) (n : p ∉ ρ) : p ∉ ρ' := fun h => by
  rw [f.new p h n] at e
  cases e
mutual
theorem RP.mono (f : Fr ρ H ρ' H') (h : Hs G B ρ S H) : ∀ {d : P} {v : V}, RP G B ρ H d v → RP G B ρ' H' d v
  | _, _, .non => .non
  | _, _, .bl b => .bl b
  | _, _, .int i => .int i
  | _, _, .str x => .str x
  | _, _, .fn i => .fn i
  | _, _, .tup s r => .tup (f.tp h s) (RPs.mono f h r)
  | _, _, .lst s b n r => .lst (f.keep _ _ s n) b (f.out s n) (RPs.mono f h r)
  | _, _, .scr s => .scr (f.sc h s)
  | _, _, .ty n => .ty n
  | _, _, .tk s => .tk (f.keep _ _ s (h.not s id))
theorem RPs.mono (f : Fr ρ H ρ' H') (h : Hs G B ρ S H) : ∀ {d : List P} {v : List V}, RPs G B ρ H d v → RPs G B ρ' H' d v
  | _, _, .nil => .nil
  | _, _, .cons r q => .cons (RP.mono f h r) (RPs.mono f h q)
end
mutual
theorem RV.mono (f : Fr ρ H ρ' H') (h : Hs G B ρ S H) : ∀ {d : D} {v : V}, RV G B ρ H d v → RV G B ρ' H' d v
  | _, _, .p r => .p (RP.mono f h r)
  | _, _, .loc e => .loc (pre_get f.pre e)
  | _, _, .mix s r => .mix (f.tt h s) (RVs.mono f h r)
  | _, _, .mxl s b n r => .mxl (f.keep _ _ s n) b (f.out s n) (RVs.mono f h r)
theorem RVs.mono (f : Fr ρ H ρ' H') (h : Hs G B ρ S H) : ∀ {d : List D} {v : List V}, RVs G B ρ H d v → RVs G B ρ' H' d v
  | _, _, .nil => .nil
  | _, _, .cons r q => .cons (RV.mono f h r) (RVs.mono f h q)
end
theorem bar_out {B' : List Addr} (hb : ∀ b ∈ B', b ∈ B ∨ H b = none) {p : Addr} {o : HO} (e : H p = some o) (n : p ∉ B) : p ∉ B' := fun z => by
  rcases hb p z with h | h
  · exact n h
  · rw [h] at e
    cases e
/-- a looser frame: what stands at the barrier may change -/
structure Fw (B ρ : List Addr) (H : Hp) (ρ' : List Addr) (H' : Hp) : Prop where
  pre : ρ <+: ρ'
  keep : ∀ a o, H a = some o → a ∉ ρ → a ∉ B → H' a = some o
  new : ∀ a ∈ ρ', a ∉ ρ → H a = none
  fz : ∀ a o u, H a = some (.frz o u) → H' a = some (.frz o u)
theorem Fr.w (f : Fr ρ H ρ' H') : Fw B ρ H ρ' H' := ⟨f.pre, fun a o e n _ => f.keep a o e n, f.new, f.fz⟩
theorem bar_not (h : Hs G B ρ S H) {a : Addr} {o : HO} (e : H a = some o) (n : ¬ Chg o) : a ∉ B := fun ha => by
  obtain ⟨u, e', c⟩ := h.bar a ha
  rw [e] at e'
  cases e'
  exact n c
theorem Fw.rd (f : Fw B ρ H ρ' H') {p : Addr} {u : HO} (r : Rd H p u) (n : p ∉ ρ) (nb : p ∉ B) : Rd H' p u := by
  rcases r with r | ⟨o, r⟩
  · exact .inl (f.keep _ _ r n nb)
  · exact .inr ⟨o, f.keep _ _ r n nb⟩
theorem rd_notB (h : Hs G B ρ S H) {p : Addr} {vs : List V} (r : Rd H p (.tup vs)) : p ∉ B := by
  rcases r with r | ⟨o, r⟩
  · exact bar_not h r id
  · exact bar_not h r id
theorem Fw.sqt (f : Fw B ρ H ρ' H') (h : Hs G B ρ S H) {K : PySem.W.Frag} {p : Addr} {vs : List V} (r : SqT K H p vs) : SqT K H' p vs := by
  rcases r with r | r
  · exact .inl (f.rd r (rd_not h r) (rd_notB h r))
  · exact .inr r
theorem Fw.tt (f : Fw B ρ H ρ' H') {p : Addr} {vs : List V} (r : Tt H p vs) : Tt H' p vs := let ⟨o, d, e⟩ := r; ⟨o, d, f.fz _ _ _ e⟩
theorem Fw.tp (f : Fw B ρ H ρ' H') (h : Hs G B ρ S H) {K : PySem.W.Frag} {p : Addr} {xs : List P} {vs : List V} (r : Tp K H p xs vs) : Tp K H' p xs vs := r.imp f.tt id
theorem Fw.sc (f : Fw B ρ H ρ' H') (h : Hs G B ρ S H) {K : PySem.W.Frag} {p : Addr} {ns : List Int} (r : Sc K H p ns) : Sc K H' p ns := by
  rcases r with ⟨o, r⟩ | r
  · exact .inl ⟨o, f.keep _ _ r (h.not r id) (bar_not h r id)⟩
  · exact .inr r
theorem Fw.out (f : Fw B ρ H ρ' H') {p : Addr} {o : HO} (e : H p = some o) (n : p ∉ ρ) : p ∉ ρ' := fun h => by
  rw [f.new p h n] at e
  cases e
mutual
theorem RP.mono2 {B' : List Addr} (hb : ∀ b ∈ B', b ∈ B ∨ H b = none) (f : Fw B ρ H ρ' H') (h : Hs G B ρ S H) : ∀ {d : P} {v : V}, RP G B ρ H d v → RP G B' ρ' H' d v
  | _, _, .non => .non
  | _, _, .bl b => .bl b
  | _, _, .int i => .int i
  | _, _, .str x => .str x
  | _, _, .fn i => .fn i
  | _, _, .tup s r => .tup (f.tp h s) (RPs.mono2 hb f h r)
  | _, _, .lst s b n r => .lst (f.keep _ _ s n b) (bar_out hb s b) (f.out s n) (RPs.mono2 hb f h r)
  | _, _, .scr s => .scr (f.sc h s)
  | _, _, .ty n => .ty n
  | _, _, .tk s => .tk (f.keep _ _ s (h.not s id) (bar_not h s id))
theorem RPs.mono2 {B' : List Addr} (hb : ∀ b ∈ B', b ∈ B ∨ H b = none) (f : Fw B ρ H ρ' H') (h : Hs G B ρ S H) : ∀ {d : List P} {v : List V}, RPs G B ρ H d v → RPs G B' ρ' H' d v
  | _, _, .nil => .nil
  | _, _, .cons r q => .cons (RP.mono2 hb f h r) (RPs.mono2 hb f h q)
end
mutual
theorem RV.mono2 {B' : List Addr} (hb : ∀ b ∈ B', b ∈ B ∨ H b = none) (f : Fw B ρ H ρ' H') (h : Hs G B ρ S H) : ∀ {d : D} {v : V}, RV G B ρ H d v → RV G B' ρ' H' d v
  | _, _, .p r => .p (RP.mono2 hb f h r)
  | _, _, .loc e => .loc (pre_get f.pre e)
  | _, _, .mix s r => .mix (f.tt s) (RVs.mono2 hb f h r)
  | _, _, .mxl s b n r => .mxl (f.keep _ _ s n b) (bar_out hb s b) (f.out s n) (RVs.mono2 hb f h r)
theorem RVs.mono2 {B' : List Addr} (hb : ∀ b ∈ B', b ∈ B ∨ H b = none) (f : Fw B ρ H ρ' H') (h : Hs G B ρ S H) : ∀ {d : List D} {v : List V}, RVs G B ρ H d v → RVs G B' ρ' H' d v
  | _, _, .nil => .nil
  | _, _, .cons r q => .cons (RV.mono2 hb f h r) (RVs.mono2 hb f h q)
end
theorem RK.mono {κ : Type} (f : Fr ρ H ρ' H') (h : Hs G B ρ S H) : ∀ {d : List (κ × D)} {v : List (κ × V)}, RK G B ρ H d v → RK G B ρ' H' d v
  | _, _, .nil => .nil
  | _, _, .cons r q => .cons (RV.mono f h r) (RK.mono f h q)
theorem RVs.length : ∀ {d : List D} {v : List V}, RVs G B ρ H d v → d.length = v.length
  | _, _, .nil => rfl
  | _, _, .cons _ q => congrArg (· + 1) (RVs.length q)
theorem RK.length {κ : Type} : ∀ {d : List (κ × D)} {v : List (κ × V)}, RK G B ρ H d v → d.length = v.length
  | _, _, .nil => rfl
  | _, _, .cons _ q => congrArg (· + 1) (RK.length q)
theorem RVs.append : ∀ {d e : List D} {v w : List V}, RVs G B ρ H d v → RVs G B ρ H e w → RVs G B ρ H (d ++ e) (v ++ w)
  | _, _, _, _, .nil, q => q
  | _, _, _, _, .cons r t, q => .cons r (RVs.append t q)
theorem RVs.get : ∀ {d : List D} {v : List V} {i : Nat} {x : D}, RVs G B ρ H d v → d[i]? = some x → ∃ y, v[i]? = some y ∧ RV G B ρ H x y
  | _, _, _, _, .nil, e => by simp at e
  | _, _, 0, _, .cons r _, e => by simp at e; subst e; exact ⟨_, rfl, r⟩
  | _, _, i + 1, x, .cons _ t, e => by
    obtain ⟨u, h1, h2⟩ := RVs.get (i := i) (x := x) t (by simpa using e)
    exact ⟨u, by simpa using h1, h2⟩
theorem RVs.get' : ∀ {d : List D} {v : List V} {i : Nat} {y : V}, RVs G B ρ H d v → v[i]? = some y → ∃ x, d[i]? = some x ∧ RV G B ρ H x y
  | _, _, _, _, .nil, e => by simp at e
  | _, _, 0, _, .cons r _, e => by simp at e; subst e; exact ⟨_, rfl, r⟩
  | _, _, i + 1, x, .cons _ t, e => by
    obtain ⟨u, h1, h2⟩ := RVs.get' (i := i) (y := x) t (by simpa using e)
    exact ⟨u, by simpa using h1, h2⟩
theorem RVs.take : ∀ {d : List D} {v : List V} (n : Nat), RVs G B ρ H d v → RVs G B ρ H (d.take n) (v.take n)
  | _, _, 0, _ => .nil
  | _, _, _ + 1, .nil => .nil
  | _, _, n + 1, .cons r t => .cons r (RVs.take n t)
theorem RVs.drop : ∀ {d : List D} {v : List V} (n : Nat), RVs G B ρ H d v → RVs G B ρ H (d.drop n) (v.drop n)
  | _, _, 0, r => r
  | _, _, _ + 1, .nil => .nil
  | _, _, n + 1, .cons r t => RVs.drop n t
theorem RVs.set {x : D} {y : V} (r : RV G B ρ H x y) : ∀ {d : List D} {v : List V} (n : Nat), RVs G B ρ H d v → RVs G B ρ H (d.set n x) (v.set n y)
  | _, _, _, .nil => .nil
  | _, _, 0, .cons _ t => .cons r t
  | _, _, n + 1, .cons q t => .cons q (RVs.set r n t)
theorem RVs.reverse : ∀ {d : List D} {v : List V}, RVs G B ρ H d v → RVs G B ρ H d.reverse v.reverse
  | _, _, .nil => .nil
  | _, _, .cons r t => by
    rw [List.reverse_cons, List.reverse_cons]
    exact (RVs.reverse t).append (.cons r .nil)
theorem RPs.length : ∀ {d : List P} {v : List V}, RPs G B ρ H d v → d.length = v.length
  | _, _, .nil => rfl
  | _, _, .cons _ q => congrArg (· + 1) (RPs.length q)
theorem RPs.append : ∀ {d e : List P} {v w : List V}, RPs G B ρ H d v → RPs G B ρ H e w → RPs G B ρ H (d ++ e) (v ++ w)
  | _, _, _, _, .nil, q => q
  | _, _, _, _, .cons r t, q => .cons r (RPs.append t q)
theorem RPs.get : ∀ {d : List P} {v : List V} {i : Nat} {x : P}, RPs G B ρ H d v → d[i]? = some x → ∃ y, v[i]? = some y ∧ RP G B ρ H x y
  | _, _, _, _, .nil, e => by simp at e
  | _, _, 0, _, .cons r _, e => by simp at e; subst e; exact ⟨_, rfl, r⟩
  | _, _, i + 1, x, .cons _ t, e => by
    obtain ⟨u, h1, h2⟩ := RPs.get (i := i) (x := x) t (by simpa using e)
    exact ⟨u, by simpa using h1, h2⟩
theorem RPs.get' : ∀ {d : List P} {v : List V} {i : Nat} {y : V}, RPs G B ρ H d v → v[i]? = some y → ∃ x, d[i]? = some x ∧ RP G B ρ H x y
  | _, _, _, _, .nil, e => by simp at e
  | _, _, 0, _, .cons r _, e => by simp at e; subst e; exact ⟨_, rfl, r⟩
  | _, _, i + 1, x, .cons _ t, e => by
    obtain ⟨u, h1, h2⟩ := RPs.get' (i := i) (y := x) t (by simpa using e)
    exact ⟨u, by simpa using h1, h2⟩
theorem RPs.take : ∀ {d : List P} {v : List V} (n : Nat), RPs G B ρ H d v → RPs G B ρ H (d.take n) (v.take n)
  | _, _, 0, _ => .nil
  | _, _, _ + 1, .nil => .nil
  | _, _, n + 1, .cons r t => .cons r (RPs.take n t)
theorem RPs.drop : ∀ {d : List P} {v : List V} (n : Nat), RPs G B ρ H d v → RPs G B ρ H (d.drop n) (v.drop n)
  | _, _, 0, r => r
  | _, _, _ + 1, .nil => .nil
  | _, _, n + 1, .cons r t => RPs.drop n t
theorem RPs.set {x : P} {y : V} (r : RP G B ρ H x y) : ∀ {d : List P} {v : List V} (n : Nat), RPs G B ρ H d v → RPs G B ρ H (d.set n x) (v.set n y)
  | _, _, _, .nil => .nil
  | _, _, 0, .cons _ t => .cons r t
  | _, _, n + 1, .cons q t => .cons q (RPs.set r n t)
theorem RPs.reverse : ∀ {d : List P} {v : List V}, RPs G B ρ H d v → RPs G B ρ H d.reverse v.reverse
  | _, _, .nil => .nil
  | _, _, .cons r t => by
    rw [List.reverse_cons, List.reverse_cons]
    exact (RPs.reverse t).append (.cons r .nil)
theorem RPs.toD : ∀ {d : List P} {v : List V}, RPs G B ρ H d v → RVs G B ρ H (d.map .p) v
  | _, _, .nil => .nil
  | _, _, .cons r q => .cons (.p r) (RPs.toD q)
end
end Rf
end

section
set_option Elab.async false
set_option linter.all false
set_option maxRecDepth 100000
set_option maxHeartbeats 4000000
/-! Rf1: what an expression, a test, arguments, a target, a statement come to, in data. -/
namespace Rf
open PySem L2

abbrev ME := Slots → Sto → Option (D × Sto)
abbrev MT := Slots → Sto → Option (Bool × Sto)
abbrev MA := Slots → Sto → Option (List D × Sto)
inductive Fl where
  | nx | rt (d : D) | bk | ct
abbrev MS := Slots → Sto → Option (Fl × Slots × Sto)
abbrev MG := D → Slots → Sto → Option (Slots × Sto)

structure Sl (G : Gx) (B ρ : List Addr) (H : Hp) (σ : Slots) (σc : L2.St) : Prop where
  len : σ.length = σc.length
  at_ : ∀ (i : Nat) (d : D), σ[i]? = some (some d) → ∃ v, σc[i]? = some (some v) ∧ RV G B ρ H d v

def RdE (G : Gx) (m : ME) : TE := fun σc H Q => ∃ B ρ S σ v S', Hs G B ρ S H ∧ Sl G B ρ H σ σc ∧ m σ S = some (v, S') ∧
  ∀ ρ' vc H', Fr ρ H ρ' H' → Hs G B ρ' S' H' → RV G B ρ' H' v vc → Q vc H'
def RdT (G : Gx) (m : MT) : TT := fun σc H Q => ∃ B ρ S σ b S', Hs G B ρ S H ∧ Sl G B ρ H σ σc ∧ m σ S = some (b, S') ∧
  ∀ ρ' H', Fr ρ H ρ' H' → Hs G B ρ' S' H' → Q b H'
def RdA (G : Gx) (m : MA) : TA := fun σc H Q => ∃ B ρ S σ v S', Hs G B ρ S H ∧ Sl G B ρ H σ σc ∧ m σ S = some (v, S') ∧
  ∀ ρ' vc H', Fr ρ H ρ' H' → Hs G B ρ' S' H' → RVs G B ρ' H' v vc → Q vc H'
def RdG (G : Gx) (m : MG) : TG := fun vc σc H Q => ∃ B ρ S σ d σ' S', Hs G B ρ S H ∧ Sl G B ρ H σ σc ∧ RV G B ρ H d vc ∧ m d σ S = some (σ', S') ∧
  ∀ ρ' σc' H', Fr ρ H ρ' H' → Hs G B ρ' S' H' → Sl G B ρ' H' σ' σc' → Q σc' H'
/-- what a statement's end asks -/
def EndOk (G : Gx) (B ρ : List Addr) (H : Hp) (D : Ends) (σ' : Slots) (S' : Sto) : Fl → Prop
  | .nx => ∀ ρ' σc' H', Fr ρ H ρ' H' → Hs G B ρ' S' H' → Sl G B ρ' H' σ' σc' → D.nx σc' H'
  | .bk => ∀ ρ' σc' H', Fr ρ H ρ' H' → Hs G B ρ' S' H' → Sl G B ρ' H' σ' σc' → D.bk σc' H'
  | .ct => ∀ ρ' σc' H', Fr ρ H ρ' H' → Hs G B ρ' S' H' → Sl G B ρ' H' σ' σc' → D.ct σc' H'
  | .rt d => ∀ ρ' vc H', Fr ρ H ρ' H' → Hs G B ρ' S' H' → RV G B ρ' H' d vc → D.rt vc H'
def RdS (G : Gx) (m : MS) : TS := fun D σc H => ∃ B ρ S σ f σ' S', Hs G B ρ S H ∧ Sl G B ρ H σ σc ∧ m σ S = some (f, σ', S') ∧ EndOk G B ρ H D σ' S' f

/-! by values -/
def Po (G : Gx) (B ρ : List Addr) (H : Hp) (z : D) (S' : Sto) (Q : VK) : Prop := ∀ ρ' vc H', Fr ρ H ρ' H' → Hs G B ρ' S' H' → RV G B ρ' H' z vc → Q vc H'
def O1 (G : Gx) (f : D → Sto → Option (D × Sto)) : V → Hp → VK → Prop := fun xc H Q => ∃ B ρ S x z S', Hs G B ρ S H ∧ RV G B ρ H x xc ∧ f x S = some (z, S') ∧ Po G B ρ H z S' Q
def O2 (G : Gx) (f : D → D → Sto → Option (D × Sto)) : R2 := fun xc yc H Q => ∃ B ρ S x y z S', Hs G B ρ S H ∧ RV G B ρ H x xc ∧ RV G B ρ H y yc ∧ f x y S = some (z, S') ∧ Po G B ρ H z S' Q
def OL (G : Gx) (f : List D → Sto → Option (D × Sto)) : List V → Hp → VK → Prop := fun xc H Q => ∃ B ρ S x z S', Hs G B ρ S H ∧ RVs G B ρ H x xc ∧ f x S = some (z, S') ∧ Po G B ρ H z S' Q
def OM (G : Gx) (f : D → List D → Sto → Option (D × Sto)) : V → List V → Hp → VK → Prop := fun xc yc H Q => ∃ B ρ S x y z S', Hs G B ρ S H ∧ RV G B ρ H x xc ∧ RVs G B ρ H y yc ∧ f x y S = some (z, S') ∧ Po G B ρ H z S' Q

section
variable {G : Gx} {B ρ ρ1 ρ' : List Addr} {S S1 S2 S' : Sto} {H H1 H' : Hp} {σ : Slots} {σc : L2.St} {x y z d : D} {Q : VK}
theorem Sl.mono (f : Fr ρ H ρ' H') (h : Hs G B ρ S H) (s : Sl G B ρ H σ σc) : Sl G B ρ' H' σ σc := ⟨s.len, fun i d e => by
  obtain ⟨v, e1, r⟩ := s.at_ i d e
  exact ⟨v, e1, r.mono f h⟩⟩
theorem Sl.set (s : Sl G B ρ H σ σc) (i : Nat) {v : V} (r : RV G B ρ H d v) : Sl G B ρ H (σ.set i (some d)) (σc.set i (some v)) := ⟨by rw [List.length_set, List.length_set]; exact s.len, fun j e h => by
  by_cases hj : i = j
  · subst hj
    have hl : i < σ.length := by
      have := (List.getElem?_eq_some_iff.mp h).1
      rwa [List.length_set] at this
    rw [List.getElem?_set_self hl] at h
    cases h
    exact ⟨v, List.getElem?_set_self (by rw [← s.len]; exact hl), r⟩
  · rw [List.getElem?_set_ne hj] at h
    obtain ⟨w, e1, q⟩ := s.at_ j e h
    exact ⟨w, by rw [List.getElem?_set_ne hj]; exact e1, q⟩⟩
theorem Sl.unset (s : Sl G B ρ H σ σc) (i : Nat) : Sl G B ρ H (σ.set i none) (σc.set i none) := ⟨by rw [List.length_set, List.length_set]; exact s.len, fun j e h => by
  by_cases hj : i = j
  · subst hj
    have hl : i < σ.length := by
      have := (List.getElem?_eq_some_iff.mp h).1
      rwa [List.length_set] at this
    rw [List.getElem?_set_self hl] at h
    cases h
  · rw [List.getElem?_set_ne hj] at h
    obtain ⟨w, e1, q⟩ := s.at_ j e h
    exact ⟨w, by rw [List.getElem?_set_ne hj]; exact e1, q⟩⟩
theorem Po.here (hs : Hs G B ρ S H) (k : Po G B ρ H z S Q) {v : V} (r : RV G B ρ H z v) : Q v H := k ρ v H Fr.refl hs r
theorem Po.step (f : Fr ρ H ρ1 H1) (k : Po G B ρ H z S' Q) : Po G B ρ1 H1 z S' Q := fun ρ' vc H' g => k ρ' vc H' (f.trans g)
/-- a new object that is not tracked -/
theorem Fr.laid {p : Addr} {o : HO} (hp : H p = none) : Fr ρ H ρ (upd H p o) := ⟨List.prefix_refl _, fun a u e _ => by rw [upd_ne (ne_of_none e hp)]; exact e, fun a h n => absurd h n, fun a o u e => by rw [upd_ne (ne_of_none e hp)]; exact e⟩
theorem RO.mono (f : Fr ρ H ρ' H') (h : Hs G B ρ S H) {a : Addr} (e : H' a = H a) {o : AO} (r : RO G B ρ H a o) : RO G B ρ' H' a o := by
  cases o with
  | lst xs => obtain ⟨vs, e1, q⟩ := r; exact ⟨vs, e.trans e1, q.mono f h⟩
  | dk xs => obtain ⟨vs, e1, q⟩ := r; exact ⟨vs, e.trans e1, q.mono f h⟩
  | dt xs => obtain ⟨vs, e1, q⟩ := r; exact ⟨vs, e.trans e1, q.mono f h⟩
  | fk xs => obtain ⟨o, vs, e1, q⟩ := r; exact ⟨o, vs, e.trans e1, q.mono f h⟩
  | ft xs => obtain ⟨o, vs, e1, q⟩ := r; exact ⟨o, vs, e.trans e1, q.mono f h⟩
  | ins c xs => obtain ⟨dx, vs, e1, q⟩ := r; exact ⟨dx, vs, e.trans e1, q.mono f h⟩
theorem Hs.laid (h : Hs G B ρ S H) {p : Addr} {o : HO} (hp : H p = none) : Hs G B ρ S (upd H p o) := by
  have f : Fr ρ H ρ (upd H p o) := Fr.laid hp
  refine ⟨h.len, h.nd, fun a ha => ?_, h.dis, fun i a u e1 e2 => ?_, G.st h.inv fun b v e _ => (upd_ne (ne_of_none e hp)).trans e⟩
  · obtain ⟨u, e, c⟩ := h.bar a ha
    exact ⟨u, by rw [upd_ne (ne_of_none e hp)]; exact e, c⟩
  · obtain ⟨w, e, _⟩ := h.chg (List.mem_of_getElem? e1)
    exact (h.obj i a u e1 e2).mono f h (upd_ne (ne_of_none e hp))
/-- a new object that is tracked -/
theorem Fr.push {p : Addr} {o : HO} (hp : H p = none) : Fr ρ H (ρ ++ [p]) (upd H p o) := ⟨List.prefix_append _ _, fun a u e _ => by rw [upd_ne (ne_of_none e hp)]; exact e, fun a h n => by
  rcases List.mem_append.mp h with h | h
  · exact absurd h n
  · rw [List.mem_singleton.mp h]
    exact hp, fun a o u e => by rw [upd_ne (ne_of_none e hp)]; exact e⟩
theorem Hs.push (h : Hs G B ρ S H) {p : Addr} {o : HO} {u : AO} (hp : H p = none) (r : RO G B (ρ ++ [p]) (upd H p o) p u) : Hs G B (ρ ++ [p]) (S ++ [u]) (upd H p o) := by
  have f : Fr ρ H (ρ ++ [p]) (upd H p o) := Fr.push hp
  have np : p ∉ ρ := fun z => by
    obtain ⟨w, e, _⟩ := h.chg z
    rw [hp] at e
    cases e
  refine ⟨by rw [List.length_append, List.length_append, h.len]; rfl, ?_, fun a ha => ?_, fun a ha => ?_, fun i a w e1 e2 => ?_, G.st h.inv fun b v e _ => (upd_ne (ne_of_none e hp)).trans e⟩
  · rw [List.nodup_append]
    exact ⟨h.nd, by simp, fun a ha b hb => by
      rw [List.mem_singleton.mp hb]
      exact fun z => np (z ▸ ha)⟩
  · obtain ⟨u, e, c⟩ := h.bar a ha
    exact ⟨u, by rw [upd_ne (ne_of_none e hp)]; exact e, c⟩
  · rcases List.mem_append.mp ha with ha | ha
    · exact h.dis a ha
    · rw [List.mem_singleton.mp ha]
      intro z
      obtain ⟨u, e, _⟩ := h.bar p z
      rw [hp] at e
      cases e
  · by_cases hi : i < ρ.length
    · rw [List.getElem?_append_left hi] at e1
      rw [List.getElem?_append_left (by rw [← h.len]; exact hi)] at e2
      obtain ⟨w', e, _⟩ := h.chg (List.mem_of_getElem? e1)
      exact (h.obj i a w e1 e2).mono f h (upd_ne (ne_of_none e hp))
    · rw [List.getElem?_append_right (by omega)] at e1
      rw [List.getElem?_append_right (by rw [← h.len]; omega)] at e2
      rw [← h.len] at e2
      by_cases hj : i - ρ.length = 0
      · rw [hj] at e1 e2
        cases e1
        cases e2
        exact r
      · rw [List.getElem?_eq_none (by simp; omega)] at e1
        cases e1
theorem nodup_inj : ∀ {l : List Addr} {i j : Nat} (nd : l.Nodup) (hi : i < l.length) (hj : j < l.length), l[i] = l[j] → i = j
  | [], _, _, _, hi, _, _ => absurd hi (Nat.not_lt_zero _)
  | x :: r, 0, 0, _, _, _, _ => rfl
  | x :: r, 0, j + 1, nd, _, hj, e => absurd (show x ∈ r from by
      have e' : x = r[j]'(by simpa using hj) := e
      rw [e']
      exact List.getElem_mem _) (List.nodup_cons.mp nd).1
  | x :: r, i + 1, 0, nd, hi, _, e => absurd (show x ∈ r from by
      have e' : r[i]'(by simpa using hi) = x := e
      rw [← e']
      exact List.getElem_mem _) (List.nodup_cons.mp nd).1
  | x :: r, i + 1, j + 1, nd, hi, hj, e => congrArg (· + 1) (nodup_inj (List.nodup_cons.mp nd).2 (by simpa using hi) (by simpa using hj) e)
/-- what stands at a is not locked -/
def NoFz (H : Hp) (a : Addr) : Prop := ∀ o u, H a ≠ some (.frz o u)
theorem Fr.put {a : Addr} {o : HO} (ha : a ∈ ρ) (hf : NoFz H a) : Fr ρ H ρ (upd H a o) := ⟨List.prefix_refl _, fun b u e n => by
  have ne : b ≠ a := fun z => n (by rw [z]; exact ha)
  rw [upd_ne ne]
  exact e, fun b h n => absurd h n, fun b o u e => by
  rw [upd_ne (fun z => hf o u (by rw [← z]; exact e))]
  exact e⟩
theorem Hs.put (h : Hs G B ρ S H) {n : Nat} {a : Addr} {o : HO} {u : AO} (ha : ρ[n]? = some a) (hf : NoFz H a) (r : RO G B ρ (upd H a o) a u) : Hs G B ρ (S.set n u) (upd H a o) := by
  have f : Fr ρ H ρ (upd H a o) := Fr.put (List.mem_of_getElem? ha) hf
  refine ⟨by rw [List.length_set]; exact h.len, h.nd, fun b hb => ?_, h.dis, fun i b w e1 e2 => ?_, G.st h.inv fun b v e n => by
    rw [upd_ne (fun z => h.not e n (by rw [z]; exact List.mem_of_getElem? ha))]
    exact e⟩
  · obtain ⟨u, e, c⟩ := h.bar b hb
    have ne : b ≠ a := fun z => h.dis a (List.mem_of_getElem? ha) (by rw [← z]; exact hb)
    exact ⟨u, by rw [upd_ne ne]; exact e, c⟩
  · by_cases hi : n = i
    · subst hi
      rw [ha] at e1
      cases e1
      rw [List.getElem?_set_self (by rw [← h.len]; exact (List.getElem?_eq_some_iff.mp ha).1)] at e2
      cases e2
      exact r
    · rw [List.getElem?_set_ne hi] at e2
      have hb : b ≠ a := fun z => by
        subst z
        obtain ⟨l1, g1⟩ := List.getElem?_eq_some_iff.mp ha
        obtain ⟨l2, g2⟩ := List.getElem?_eq_some_iff.mp e1
        exact hi (nodup_inj h.nd l1 l2 (g1.trans g2.symm))
      exact (h.obj i b w e1 e2).mono f h (upd_ne hb)
theorem Hs.at_loc (h : Hs G B ρ S H) {n : Nat} {v : V} (r : RV G B ρ H (.loc n) v) {o : AO} (e : S[n]? = some o) : ∃ a, v = .ref a ∧ ρ[n]? = some a ∧ RO G B ρ H a o := by
  cases r with
  | loc q => exact ⟨_, rfl, q, h.obj n _ o q e⟩

/-! two in a row -/
theorem RdE.two {ma mb : ME} {R : V → V → Hp → Prop} (hs : Hs G B ρ S H) (sl : Sl G B ρ H σ σc) (ea : ma σ S = some (x, S1)) (eb : mb σ S1 = some (y, S2))
    (k : ∀ ρ2 xc yc H2, Fr ρ H ρ2 H2 → Hs G B ρ2 S2 H2 → RV G B ρ2 H2 x xc → RV G B ρ2 H2 y yc → R xc yc H2) :
    RdE G ma σc H fun xc H1 => RdE G mb σc H1 fun yc H2 => R xc yc H2 :=
  ⟨B, ρ, S, σ, x, S1, hs, sl, ea, fun ρ1 xc H1 f1 hs1 r1 => ⟨B, ρ1, S1, σ, y, S2, hs1, sl.mono f1 hs, eb, fun ρ2 yc H2 f2 hs2 r2 => k ρ2 xc yc H2 (f1.trans f2) hs2 (r1.mono f2 hs1) r2⟩⟩
end
section
variable {X : Cx}
theorem PE_imp {e : Expr} {t t' : TE} (h : PE X e t) (k : ∀ σ H Q, t' σ H Q → t σ H Q) : PE X e t' := ⟨fun pins s σ H Q I q => h.run pins s σ H Q I (k σ H Q q)⟩
theorem PT_imp {e : Expr} {t t' : TT} (h : PT X e t) (k : ∀ σ H Q, t' σ H Q → t σ H Q) : PT X e t' := ⟨fun pins s σ H Q I q => h.run pins s σ H Q I (k σ H Q q)⟩
theorem PW_imp {e : Expr} {t t' : TT} (h : PW X e t) (k : ∀ σ H Q, t' σ H Q → t σ H Q) : PW X e t' := ⟨fun wh pins s σ H Q I q => h.run wh pins s σ H Q I (k σ H Q q)⟩
theorem PA_imp {e : List Expr} {t t' : TA} (h : PA X e t) (k : ∀ σ H Q, t' σ H Q → t σ H Q) : PA X e t' := ⟨fun pos pins s σ H Q I q => h.run pos pins s σ H Q I (k σ H Q q)⟩
theorem PS_imp {e : Stmt} {t t' : TS} (h : PS X e t) (k : ∀ D σ H, t' D σ H → t D σ H) : PS X e t' := ⟨fun pins s σ H D I q => h.run pins s σ H D I (k D σ H q)⟩
theorem PSs_imp {e : List Stmt} {t t' : TS} (h : PSs X e t) (k : ∀ D σ H, t' D σ H → t D σ H) : PSs X e t' := ⟨fun pins s σ H D I q => h.run pins s σ H D I (k D σ H q)⟩
theorem PG_imp {e : Expr} {t t' : TG} (h : PG X e t) (k : ∀ v σ H Q, t' v σ H Q → t v σ H Q) : PG X e t' := by
  exact ⟨fun pins s σ H v u Q I r q => h.run pins s σ H v u Q I r (k v σ H Q q)⟩
end
end Rf
end

section
set_option Elab.async false
set_option linter.all false
set_option maxRecDepth 100000
set_option maxHeartbeats 4000000
/-! Rf2: names, constants, operators, tests, arguments, displays; statements; loops. -/
namespace Rf
open PySem L2

/-! ### the words -/
def mVar (i : Nat) : ME := fun σ S => match σ[i]? with | some (some d) => some (d, S) | _ => none
def mC (x : P) : ME := fun _ S => some (.p x, S)
def mOp (f : D → D → Sto → Option (D × Sto)) (a b : ME) : ME := fun σ S => match a σ S with
  | none => none
  | some (x, S1) => match b σ S1 with
    | none => none
    | some (y, S2) => f x y S2
def mUn (f : D → Sto → Option (D × Sto)) (a : ME) : ME := fun σ S => match a σ S with
  | none => none
  | some (x, S1) => f x S1
def mBl : D → Option Bool
  | .p (.bl b) => some b
  | _ => none
def mTest (a : ME) : MT := fun σ S => match a σ S with
  | none => none
  | some (x, S1) => match mBl x with
    | none => none
    | some b => some (b, S1)
def mChain (f g : D → D → Sto → Option (D × Sto)) (a b c : ME) : ME := fun σ S => match a σ S with
  | none => none
  | some (x, S1) => match b σ S1 with
    | none => none
    | some (y, S2) => match f x y S2 with
      | none => none
      | some (z, S3) => match mBl z with
        | none => none
        | some true => (match c σ S3 with
          | none => none
          | some (w, S4) => g y w S4)
        | some false => some (.p (.bl false), S3)
def mAnd (a b : ME) : ME := fun σ S => match a σ S with
  | none => none
  | some (x, S1) => match mBl x with
    | none => none
    | some true => b σ S1
    | some false => some (.p (.bl false), S1)
def mOr (a b : ME) : ME := fun σ S => match a σ S with
  | none => none
  | some (x, S1) => match mBl x with
    | none => none
    | some true => some (.p (.bl true), S1)
    | some false => b σ S1
def mNot (a : ME) : ME := fun σ S => match a σ S with
  | none => none
  | some (x, S1) => match mBl x with
    | none => none
    | some b => some (.p (.bl (!b)), S1)
def mIf (t : MT) (a b : ME) : ME := fun σ S => match t σ S with
  | none => none
  | some (true, S1) => a σ S1
  | some (false, S1) => b σ S1
def tAnd' (a b : MT) : MT := fun σ S => match a σ S with
  | none => none
  | some (true, S1) => b σ S1
  | some (false, S1) => some (false, S1)
def tOr' (a b : MT) : MT := fun σ S => match a σ S with
  | none => none
  | some (true, S1) => some (true, S1)
  | some (false, S1) => b σ S1
def tNot' (a : MT) : MT := fun σ S => match a σ S with
  | none => none
  | some (b, S1) => some (!b, S1)
def mNil : MA := fun _ S => some ([], S)
def mCons (a : ME) (r : MA) : MA := fun σ S => match a σ S with
  | none => none
  | some (x, S1) => match r σ S1 with
    | none => none
    | some (xs, S2) => some (x :: xs, S2)
def allP : List D → Option (List P)
  | [] => some []
  | .p x :: r => match allP r with
    | some xs => some (x :: xs)
    | none => none
  | _ :: _ => none
/-- a tuple, a list that does not change, of items -/
def tupOf (ds : List D) : D := match allP ds with
  | some ps => .p (.tup ps)
  | none => .mix ds
def lstOf (ds : List D) : D := match allP ds with
  | some ps => .p (.lst ps)
  | none => .mxl ds
def mTup (a : MA) : ME := fun σ S => match a σ S with
  | none => none
  | some (xs, S1) => if xs.length ≤ 100000 then some (tupOf xs, S1) else none
def mLst (a : MA) : ME := fun σ S => match a σ S with
  | none => none
  | some (xs, S1) => if xs.length ≤ 100000 then some (lstOf xs, S1) else none
/-- a list that may change -/
def mNew (a : MA) : ME := fun σ S => match a σ S with
  | none => none
  | some (xs, S1) => if xs.length ≤ 100000 then some (.loc S1.length, S1 ++ [.lst xs]) else none

section
variable {G : Gx} {B ρ ρ1 ρ' : List Addr} {S S1 S2 S' : Sto} {H H1 H' : Hp} {σ : Slots} {σc : L2.St} {x y z d : D}
theorem allP_eq : ∀ {ds : List D} {ps : List P}, allP ds = some ps → ds = ps.map .p
  | [], ps, e => by cases e; rfl
  | .p x :: r, ps, e => by
    unfold allP at e
    cases q : allP r with
    | none => rw [q] at e; cases e
    | some xs => rw [q] at e; cases e; rw [allP_eq q]; rfl
  | .loc _ :: _, _, e => by cases e
  | .mix _ :: _, _, e => by cases e
  | .mxl _ :: _, _, e => by cases e
theorem RVs.toP : ∀ {ps : List P} {vs : List V}, RVs G B ρ H (ps.map .p) vs → RPs G B ρ H ps vs
  | [], _, .nil => .nil
  | x :: r, _, .cons (.p q) t => .cons q (RVs.toP t)
theorem tup_ok {p : Addr} {vs : List V} {ds : List D} (s : Tt H p vs) (r : RVs G B ρ H ds vs) : RV G B ρ H (tupOf ds) (.ref p) := by
  unfold tupOf
  cases q : allP ds with
  | none => exact .mix s r
  | some ps =>
    rw [allP_eq q] at r
    exact .p (.tup (.inl s) r.toP)
theorem lst_ok {p : Addr} {vs : List V} {ds : List D} (s : H p = some (.lst vs)) (n1 : p ∉ B) (n2 : p ∉ ρ) (r : RVs G B ρ H ds vs) : RV G B ρ H (lstOf ds) (.ref p) := by
  unfold lstOf
  cases q : allP ds with
  | none => exact .mxl s n1 n2 r
  | some ps =>
    rw [allP_eq q] at r
    exact .p (.lst s n1 n2 r.toP)
theorem Hs.fresh (h : Hs G B ρ S H) {p : Addr} (hp : H p = none) : p ∉ B ∧ p ∉ ρ := by
  constructor
  · intro z
    obtain ⟨o, e, _⟩ := h.bar p z
    rw [hp] at e
    cases e
  · intro z
    obtain ⟨o, e, _⟩ := h.chg z
    rw [hp] at e
    cases e
/-- a new tuple | list is laid -/
theorem Po.newT {ds : List D} {vs : List V} {Q : VK} (hs : Hs G B ρ S H) (r : RVs G B ρ H ds vs) (k : Po G B ρ H (tupOf ds) S Q) : NewT vs H Q := fun p o hp hd =>
  k ρ _ _ (Fr.laid hp) (hs.laid hp) (tup_ok ⟨o, hd, upd_same⟩ (r.mono (Fr.laid hp) hs))
theorem Po.newL {ds : List D} {vs : List V} {Q : VK} (hs : Hs G B ρ S H) (r : RVs G B ρ H ds vs) (k : Po G B ρ H (lstOf ds) S Q) {p : Addr} (hp : H p = none) : Q (.ref p) (upd H p (.lst vs)) :=
  k ρ _ _ (Fr.laid hp) (hs.laid hp) (lst_ok upd_same (hs.fresh hp).1 (hs.fresh hp).2 (r.mono (Fr.laid hp) hs))
/-- a new list that may change -/
theorem Po.newM {ds : List D} {vs : List V} {Q : VK} (hs : Hs G B ρ S H) (r : RVs G B ρ H ds vs) (k : Po G B ρ H (.loc S.length) (S ++ [.lst ds]) Q) {p : Addr} (hp : H p = none) : Q (.ref p) (upd H p (.lst vs)) :=
  k (ρ ++ [p]) _ _ (Fr.push hp) (hs.push hp ⟨vs, upd_same, r.mono (Fr.push hp) hs⟩) (.loc (by rw [← hs.len, List.getElem?_append_right (Nat.le_refl _), Nat.sub_self]; rfl))
end

section
variable {X : Cx} {G : Gx} {a b c : Expr} {es : List Expr} {ma mb mc : ME} {mt mu : MT} {mr : MA} {pos : Pos} {f g : D → D → Sto → Option (D × Sto)} {f1 : D → Sto → Option (D × Sto)}
theorem e_var (i : Nat) {x : Str} (hN : X.N[i]? = some x := by rfl) (hv : Vis X.env.scope x := by first | exact Or.inl rfl | exact Or.inr (Or.inl rfl) | exact Or.inr (Or.inr rfl)) (hd : (x == ("__debug__" : Str)) = false := by decide)
    (hcd : (x == ("__classdict__" : Str)) = false := by decide) : PE X (.Name x pos) (RdE G (mVar i)) :=
  PE_imp (pe_var hN hv hd hcd) fun σc H Q ⟨B, ρ, S, σ, v, S', hs, sl, e, k⟩ => by
    unfold mVar at e
    cases q : σ[i]? with
    | none => rw [q] at e; cases e
    | some o =>
      cases o with
      | none => rw [q] at e; cases e
      | some d =>
        rw [q] at e
        cases e
        obtain ⟨w, e1, r⟩ := sl.at_ i _ q
        exact ⟨w, e1, k ρ w H Fr.refl hs r⟩
theorem PE_c {x : P} {v : V} {e : Expr} (h : PE X e (tC v)) (r : ∀ B ρ H, RP G B ρ H x v) : PE X e (RdE G (mC x)) :=
  PE_imp h fun σc H Q ⟨B, ρ, S, σ, w, S', hs, sl, e, k⟩ => by
    cases e
    exact k ρ _ H Fr.refl hs (.p (r B ρ H))
theorem e_int {i j} : PE X (.Constant (.int i) j pos) (RdE G (mC (.int i))) := PE_c pe_int fun _ _ _ => .int _
theorem e_bl {i j} : PE X (.Constant (.bool i) j pos) (RdE G (mC (.bl i))) := PE_c pe_bl fun _ _ _ => .bl _
theorem e_non {j} : PE X (.Constant .none j pos) (RdE G (mC .non)) := PE_c pe_non fun _ _ _ => .non
theorem e_str {i j} : PE X (.Constant (.str i) j pos) (RdE G (mC (.str i))) := PE_c pe_str fun _ _ _ => .str _
/-- a constant of the module -/
theorem e_glob {x : Str} {d : P} {v : V} {u : Value} (hg : Gl X x) (hm : X.mg x = some u) (ru : RelV v u) (r : ∀ B ρ H, RP G B ρ H d v) (hd : (x == ("__debug__" : Str)) = false := by decide) : PE X (.Name x pos) (RdE G (mC d)) :=
  PE_c (pe_glob hg hm ru hd) r
theorem RdE_op (ha : PE X a (RdE G ma)) (hb : PE X b (RdE G mb)) {σc : L2.St} {H : Hp} {Q : VK} (h : RdE G (mOp f ma mb) σc H Q) : tOp (O2 G f) (RdE G ma) (RdE G mb) σc H Q := by
  obtain ⟨B, ρ, S, σ, v, S', hs, sl, e, k⟩ := h
  unfold mOp at e
  cases ea : ma σ S with
  | none => rw [ea] at e; cases e
  | some p =>
    obtain ⟨x, S1⟩ := p
    rw [ea] at e
    cases eb : mb σ S1 with
    | none => simp only [eb] at e; cases e
    | some p =>
      obtain ⟨y, S2⟩ := p
      simp only [eb] at e
      exact RdE.two hs sl ea eb fun ρ2 xc yc H2 fr hs2 rx ry => ⟨B, ρ2, S2, x, y, v, S', hs2, rx, ry, e, Po.step fr k⟩
theorem e_op {op : Operator} (ho : OpR X (binaryOp op) (O2 G f)) (ha : PE X a (RdE G ma)) (hb : PE X b (RdE G mb)) : PE X (.BinOp a op b pos) (RdE G (mOp f ma mb)) :=
  PE_imp (pe_op ho ha hb) fun _ _ _ h => RdE_op ha hb h
theorem e_cmp {op : CmpOp} (ho : OpR X (compareOp op) (O2 G f)) (ha : PE X a (RdE G ma)) (hb : PE X b (RdE G mb)) (hm : behindInMarks op b = false) : PE X (.Compare a [op] [b] pos) (RdE G (mOp f ma mb)) :=
  PE_imp (pe_cmpR ho ha hb hm) fun _ _ _ h => RdE_op ha hb h
theorem e_ix (ho : IxR X (O2 G f)) (ha : PE X a (RdE G ma)) (hb : PE X b (RdE G mb)) (hs : PlainIx b) : PE X (.Subscript a b pos) (RdE G (mOp f ma mb)) :=
  PE_imp (pe_ix ho ha hb hs) fun _ _ _ h => RdE_op ha hb h
theorem e_un {op : UnaryOp} (ho : UnR X (unaryOp op) (O1 G f1)) (ha : PE X a (RdE G ma)) : PE X (.UnaryOp op a pos) (RdE G (mUn f1 ma)) :=
  PE_imp (pe_un ho ha) fun σc H Q ⟨B, ρ, S, σ, v, S', hs, sl, e, k⟩ => by
    unfold mUn at e
    cases ea : ma σ S with
    | none => rw [ea] at e; cases e
    | some p =>
      obtain ⟨x, S1⟩ := p
      simp only [ea] at e
      exact ⟨B, ρ, S, σ, x, S1, hs, sl, ea, fun ρ1 xc H1 fr hs1 rx => ⟨B, ρ1, S1, x, v, S', hs1, rx, e, Po.step fr k⟩⟩
theorem mBl_eq {x : D} {b : Bool} (e : mBl x = some b) : x = .p (.bl b) := by
  cases x with
  | p z =>
    cases z with
    | bl c => cases e; rfl
    | _ => cases e
  | _ => cases e
theorem rv_bl {B ρ : List Addr} {H : Hp} {b : Bool} {v : V} (r : RV G B ρ H (.p (.bl b)) v) : v = .bl b := by
  cases r with
  | p r => cases r; rfl
/-- a value that is a bool, as a test -/
theorem RdT_val {te : TE} {σc : L2.St} {H : Hp} {Q : Bool → Hp → Prop} {R : VK} (h : RdT G (mTest ma) σc H Q) (k : ∀ b H', Q b H' → R (.bl b) H') : RdE G ma σc H R := by
  obtain ⟨B, ρ, S, σ, b, S', hs, sl, e, q⟩ := h
  unfold mTest at e
  cases ea : ma σ S with
  | none => rw [ea] at e; cases e
  | some p =>
    obtain ⟨x, S1⟩ := p
    simp only [ea] at e
    cases eb : mBl x with
    | none => rw [eb] at e; cases e
    | some b' =>
      rw [eb] at e
      cases e
      cases mBl_eq eb
      exact ⟨B, ρ, S, σ, _, _, hs, sl, ea, fun ρ' vc H' fr hs' r => by
        rw [rv_bl r]
        exact k _ _ (q ρ' H' fr hs')⟩
theorem t_val {e : Expr} (h : PE X e (RdE G ma)) (he : ∀ whole, isTrue e X.env whole = (do let v ← whole; standAt e.pos; holding [v] (truthy v)) := by intro _; rfl) : PT X e (RdT G (mTest ma)) :=
  PT_imp (pt_val h he) fun σc H Q h => RdT_val (te := RdE G ma) h fun b H' q => ⟨b, rfl, q⟩
theorem t_cmp {op : CmpOp} (ho : OpR X (compareOp op) (O2 G f)) (ha : PE X a (RdE G ma)) (hb : PE X b (RdE G mb)) (hm : behindInMarks op b = false) : PT X (.Compare a [op] [b] pos) (RdT G (mTest (mOp f ma mb))) :=
  PT_imp (pt_cmpR ho ha hb hm) fun σc H Q h => RdE_op ha hb (RdT_val (te := RdE G ma) h fun b H' q => ⟨b, rfl, q⟩)
theorem RdE_chain (ha : PE X a (RdE G ma)) {σc : L2.St} {H : Hp} {Q : VK} (h : RdE G (mChain f g ma mb mc) σc H Q) : tChain (O2 G f) (O2 G g) (RdE G ma) (RdE G mb) (RdE G mc) σc H Q := by
  obtain ⟨B, ρ, S, σ, v, S', hs, sl, e, k⟩ := h
  unfold mChain at e
  cases ea : ma σ S with
  | none => rw [ea] at e; cases e
  | some p =>
    obtain ⟨x, S1⟩ := p
    rw [ea] at e
    cases eb : mb σ S1 with
    | none => simp only [eb] at e; cases e
    | some p =>
      obtain ⟨y, S2⟩ := p
      simp only [eb] at e
      cases ef : f x y S2 with
      | none => simp only [ef] at e; cases e
      | some p =>
        obtain ⟨z, S3⟩ := p
        simp only [ef] at e
        cases ez : mBl z with
        | none => simp only [ez] at e; cases e
        | some t =>
          simp only [ez] at e
          cases mBl_eq ez
          refine RdE.two hs sl ea eb fun ρ2 xc yc H2 fr hs2 rx ry => ⟨B, ρ2, S2, x, y, _, S3, hs2, rx, ry, ef, fun ρ3 zc H3 fr3 hs3 rz => ?_⟩
          refine ⟨t, rv_bl rz, ?_⟩
          cases t with
          | false =>
            rw [if_neg Bool.false_ne_true]
            cases e
            exact k ρ3 _ H3 (fr.trans fr3) hs3 (.p (.bl _))
          | true =>
            rw [if_pos rfl]
            cases ec : mc σ S3 with
            | none => simp only [ec] at e; cases e
            | some p =>
              obtain ⟨w, S4⟩ := p
              simp only [ec] at e
              exact ⟨B, ρ3, S3, σ, w, S4, hs3, sl.mono (fr.trans fr3) hs, ec, fun ρ4 wc H4 fr4 hs4 rw' => ⟨B, ρ4, S4, y, w, v, S', hs4, (ry.mono fr3 hs2).mono fr4 hs3, rw', e, Po.step ((fr.trans fr3).trans fr4) k⟩⟩
theorem e_chain {op op' : CmpOp} (ho : OpR X (compareOp op) (O2 G f)) (ho' : OpR X (compareOp op') (O2 G g)) (ha : PE X a (RdE G ma)) (hb : PE X b (RdE G mb)) (hc : PE X c (RdE G mc))
    (hm : lastMarks [op, op'] [b, c] = false := by with_unfolding_all rfl) : PE X (.Compare a [op, op'] [b, c] pos) (RdE G (mChain f g ma mb mc)) :=
  PE_imp (pe_chain ho ho' ha hb hc hm) fun _ _ _ h => RdE_chain ha h
theorem t_chain {op op' : CmpOp} (ho : OpR X (compareOp op) (O2 G f)) (ho' : OpR X (compareOp op') (O2 G g)) (ha : PE X a (RdE G ma)) (hb : PE X b (RdE G mb)) (hc : PE X c (RdE G mc))
    (hm : lastMarks [op, op'] [b, c] = false := by with_unfolding_all rfl) : PT X (.Compare a [op, op'] [b, c] pos) (RdT G (mTest (mChain f g ma mb mc))) :=
  PT_imp (pt_chain ho ho' ha hb hc hm) fun σc H Q h => RdE_chain ha (RdT_val (te := RdE G ma) h fun b H' q => ⟨b, rfl, q⟩)
/-- from the first part's bool on -/
theorem RdE_bl {σc : L2.St} {H : Hp} {B ρ : List Addr} {S S1 : Sto} {σ : Slots} {t : Bool} {R : Bool → Hp → Prop} (hs : Hs G B ρ S H) (sl : Sl G B ρ H σ σc) (ea : ma σ S = some (.p (.bl t), S1))
    (k : ∀ ρ1 H1, Fr ρ H ρ1 H1 → Hs G B ρ1 S1 H1 → R t H1) : RdE G ma σc H fun x H1 => ∃ c, x = .bl c ∧ R c H1 :=
  ⟨B, ρ, S, σ, _, S1, hs, sl, ea, fun ρ1 xc H1 fr hs1 r => ⟨t, rv_bl r, k ρ1 H1 fr hs1⟩⟩
theorem e_and {rest : List Expr} (ha : PE X a (RdE G ma)) (hb : PE X (.BoolOp .And (b :: rest) pos) (RdE G mb)) : PE X (.BoolOp .And (a :: b :: rest) pos) (RdE G (mAnd ma mb)) :=
  PE_imp (pe_and ha hb) fun σc H Q ⟨B, ρ, S, σ, v, S', hs, sl, e, k⟩ => by
    unfold mAnd at e
    cases ea : ma σ S with
    | none => rw [ea] at e; cases e
    | some p =>
      obtain ⟨x, S1⟩ := p
      simp only [ea] at e
      cases eb : mBl x with
      | none => rw [eb] at e; cases e
      | some t =>
        cases mBl_eq eb
        refine RdE_bl (R := fun c H1 => if c = true then RdE G mb σc H1 Q else Q (.bl false) H1) hs sl ea fun ρ1 H1 fr hs1 => ?_
        cases t with
        | true => exact ⟨B, ρ1, S1, σ, v, S', hs1, sl.mono fr hs, e, Po.step fr k⟩
        | false =>
          cases e
          exact k ρ1 _ H1 fr hs1 (.p (.bl _))
theorem e_or {rest : List Expr} (ha : PE X a (RdE G ma)) (hb : PE X (.BoolOp .Or (b :: rest) pos) (RdE G mb)) : PE X (.BoolOp .Or (a :: b :: rest) pos) (RdE G (mOr ma mb)) :=
  PE_imp (pe_or ha hb) fun σc H Q ⟨B, ρ, S, σ, v, S', hs, sl, e, k⟩ => by
    unfold mOr at e
    cases ea : ma σ S with
    | none => rw [ea] at e; cases e
    | some p =>
      obtain ⟨x, S1⟩ := p
      simp only [ea] at e
      cases eb : mBl x with
      | none => rw [eb] at e; cases e
      | some t =>
        cases mBl_eq eb
        refine RdE_bl (R := fun c H1 => if c = true then Q (.bl true) H1 else RdE G mb σc H1 Q) hs sl ea fun ρ1 H1 fr hs1 => ?_
        cases t with
        | false => exact ⟨B, ρ1, S1, σ, v, S', hs1, sl.mono fr hs, e, Po.step fr k⟩
        | true =>
          cases e
          exact k ρ1 _ H1 fr hs1 (.p (.bl _))
theorem e_one {op} (h : PE X a (RdE G ma)) : PE X (.BoolOp op [a] pos) (RdE G ma) := pe_one h
theorem e_not (ha : PE X a (RdE G ma)) : PE X (.UnaryOp .Not a pos) (RdE G (mNot ma)) :=
  PE_imp (pe_not ha) fun σc H Q ⟨B, ρ, S, σ, v, S', hs, sl, e, k⟩ => by
    unfold mNot at e
    cases ea : ma σ S with
    | none => rw [ea] at e; cases e
    | some p =>
      obtain ⟨x, S1⟩ := p
      simp only [ea] at e
      cases eb : mBl x with
      | none => rw [eb] at e; cases e
      | some t =>
        rw [eb] at e
        cases e
        cases mBl_eq eb
        exact RdE_bl (R := fun c H1 => Q (.bl (!c)) H1) hs sl ea fun ρ1 H1 fr hs1 => k ρ1 _ H1 fr hs1 (.p (.bl _))
theorem e_ifx (hc : PT X c (RdT G mt)) (ha : PE X a (RdE G ma)) (hb : PE X b (RdE G mb)) : PE X (.IfExp c a b pos) (RdE G (mIf mt ma mb)) :=
  PE_imp (pe_ifExp hc ha hb) fun σc H Q ⟨B, ρ, S, σ, v, S', hs, sl, e, k⟩ => by
    unfold mIf at e
    cases ea : mt σ S with
    | none => rw [ea] at e; cases e
    | some p =>
      obtain ⟨t, S1⟩ := p
      simp only [ea] at e
      refine ⟨B, ρ, S, σ, t, S1, hs, sl, ea, fun ρ1 H1 fr hs1 => ?_⟩
      cases t with
      | true => exact ⟨B, ρ1, S1, σ, v, S', hs1, sl.mono fr hs, e, Po.step fr k⟩
      | false => exact ⟨B, ρ1, S1, σ, v, S', hs1, sl.mono fr hs, e, Po.step fr k⟩
theorem w_one_and (ha : PT X a (RdT G mt)) : PW X (.BoolOp .And [a] pos) (RdT G mt) := pw_and1 ha
theorem w_one_or (ha : PT X a (RdT G mt)) : PW X (.BoolOp .Or [a] pos) (RdT G mt) := pw_or1 ha
theorem w_and {rest : List Expr} (ha : PT X a (RdT G mt)) (hb : PW X (.BoolOp .And (b :: rest) pos) (RdT G mu)) : PW X (.BoolOp .And (a :: b :: rest) pos) (RdT G (tAnd' mt mu)) :=
  PW_imp (pw_and ha hb) fun σc H Q ⟨B, ρ, S, σ, v, S', hs, sl, e, k⟩ => by
    unfold tAnd' at e
    cases ea : mt σ S with
    | none => rw [ea] at e; cases e
    | some p =>
      obtain ⟨t, S1⟩ := p
      simp only [ea] at e
      refine ⟨B, ρ, S, σ, t, S1, hs, sl, ea, fun ρ1 H1 fr hs1 => ?_⟩
      cases t with
      | true => exact ⟨B, ρ1, S1, σ, v, S', hs1, sl.mono fr hs, e, fun ρ' H' fr' => k ρ' H' (fr.trans fr')⟩
      | false => cases e; exact k ρ1 H1 fr hs1
theorem w_or {rest : List Expr} (ha : PT X a (RdT G mt)) (hb : PW X (.BoolOp .Or (b :: rest) pos) (RdT G mu)) : PW X (.BoolOp .Or (a :: b :: rest) pos) (RdT G (tOr' mt mu)) :=
  PW_imp (pw_or ha hb) fun σc H Q ⟨B, ρ, S, σ, v, S', hs, sl, e, k⟩ => by
    unfold tOr' at e
    cases ea : mt σ S with
    | none => rw [ea] at e; cases e
    | some p =>
      obtain ⟨t, S1⟩ := p
      simp only [ea] at e
      refine ⟨B, ρ, S, σ, t, S1, hs, sl, ea, fun ρ1 H1 fr hs1 => ?_⟩
      cases t with
      | false => exact ⟨B, ρ1, S1, σ, v, S', hs1, sl.mono fr hs, e, fun ρ' H' fr' => k ρ' H' (fr.trans fr')⟩
      | true => cases e; exact k ρ1 H1 fr hs1
theorem t_not (ha : PT X a (RdT G mt)) : PT X (.UnaryOp .Not a pos) (RdT G (tNot' mt)) :=
  PT_imp (pt_not ha) fun σc H Q ⟨B, ρ, S, σ, v, S', hs, sl, e, k⟩ => by
    unfold tNot' at e
    cases ea : mt σ S with
    | none => rw [ea] at e; cases e
    | some p =>
      obtain ⟨t, S1⟩ := p
      simp only [ea] at e
      cases e
      exact ⟨B, ρ, S, σ, t, _, hs, sl, ea, fun ρ1 H1 fr hs1 => k ρ1 H1 fr hs1⟩
theorem a_nil : PA X [] (RdA G mNil) := PA_imp pa_nil fun σc H Q ⟨B, ρ, S, σ, v, S', hs, sl, e, k⟩ => by
  cases e
  exact k ρ [] H Fr.refl hs .nil
theorem a_cons (ha : PE X a (RdE G ma)) (hr : PA X es (RdA G mr)) (hs : starEach (a :: es) X.env = (false, eval a X.env) :: starEach es X.env := by rfl) : PA X (a :: es) (RdA G (mCons ma mr)) :=
  PA_imp (pa_cons ha hr hs) fun σc H Q ⟨B, ρ, S, σ, v, S', hs, sl, e, k⟩ => by
    unfold mCons at e
    cases ea : ma σ S with
    | none => rw [ea] at e; cases e
    | some p =>
      obtain ⟨x, S1⟩ := p
      simp only [ea] at e
      cases eb : mr σ S1 with
      | none => rw [eb] at e; cases e
      | some p =>
        obtain ⟨xs, S2⟩ := p
        simp only [eb] at e
        cases e
        exact ⟨B, ρ, S, σ, x, S1, hs, sl, ea, fun ρ1 xc H1 fr hs1 rx => ⟨B, ρ1, S1, σ, xs, S', hs1, sl.mono fr hs, eb, fun ρ2 xcs H2 fr2 hs2 rs => k ρ2 _ H2 (fr.trans fr2) hs2 (.cons (rx.mono fr2 hs1) rs)⟩⟩
theorem sz_ok {n : Nat} (h : n ≤ 100000) : n ≤ sizeLine := Nat.le_trans h (by decide)
theorem e_tup {x1} (h : PA X es (RdA G mr)) : PE X (.Tuple es x1 pos) (RdE G (mTup mr)) :=
  PE_imp (pe_tupF h) fun σc H Q ⟨B, ρ, S, σ, v, S', hs, sl, e, k⟩ => by
    unfold mTup at e
    cases ea : mr σ S with
    | none => rw [ea] at e; cases e
    | some p =>
      obtain ⟨xs, S1⟩ := p
      simp only [ea] at e
      split at e
      · rename_i hz
        cases e
        exact ⟨B, ρ, S, σ, xs, S', hs, sl, ea, fun ρ1 vs H1 fr hs1 rx => ⟨by rw [← rx.length]; exact sz_ok hz, Po.newT hs1 rx (Po.step fr k)⟩⟩
      · cases e
theorem e_lst (h : PA X es (RdA G mr)) : PE X (.List es pos) (RdE G (mLst mr)) :=
  PE_imp (pe_lst h) fun σc H Q ⟨B, ρ, S, σ, v, S', hs, sl, e, k⟩ => by
    unfold mLst at e
    cases ea : mr σ S with
    | none => rw [ea] at e; cases e
    | some p =>
      obtain ⟨xs, S1⟩ := p
      simp only [ea] at e
      split at e
      · rename_i hz
        cases e
        exact ⟨B, ρ, S, σ, xs, S', hs, sl, ea, fun ρ1 vs H1 fr hs1 rx => ⟨by rw [← rx.length]; exact sz_ok hz, fun p hp => Po.newL hs1 rx (Po.step fr k) hp⟩⟩
      · cases e
theorem e_new (h : PA X es (RdA G mr)) : PE X (.List es pos) (RdE G (mNew mr)) :=
  PE_imp (pe_lst h) fun σc H Q ⟨B, ρ, S, σ, v, S', hs, sl, e, k⟩ => by
    unfold mNew at e
    cases ea : mr σ S with
    | none => rw [ea] at e; cases e
    | some p =>
      obtain ⟨xs, S1⟩ := p
      simp only [ea] at e
      split at e
      · rename_i hz
        cases e
        exact ⟨B, ρ, S, σ, xs, S1, hs, sl, ea, fun ρ1 vs H1 fr hs1 rx => ⟨by rw [← rx.length]; exact sz_ok hz, fun p hp => Po.newM hs1 rx (Po.step fr k) hp⟩⟩
      · cases e
end
end Rf
end

section
set_option Elab.async false
set_option linter.all false
set_option maxRecDepth 100000
set_option maxHeartbeats 4000000
/-! Rf3: defs and their calls. -/
namespace Rf
open PySem L2

/-- what a D is as data that does not change, to a depth -/
def toP (S : Sto) : Nat → D → Option P
  | _, .p x => some x
  | n + 1, .loc k => (match S[k]? with
    | some (.lst xs) => (match xs.mapM (toP S n) with
      | some ps => some (.lst ps)
      | none => none)
    | _ => none)
  | n + 1, .mix xs => (match xs.mapM (toP S n) with
    | some ps => some (.tup ps)
    | none => none)
  | n + 1, .mxl xs => (match xs.mapM (toP S n) with
    | some ps => some (.lst ps)
    | none => none)
  | 0, _ => none
mutual
def noLst : P → Bool
  | .lst _ => false
  | .tup xs => noLsts xs
  | _ => true
def noLsts : List P → Bool
  | [] => true
  | x :: r => noLst x && noLsts r
end

section
variable {G : Gx} {B ρ ρ1 ρ' : List Addr} {S S1 S2 S' : Sto} {H H1 H' : Hp} {σ : Slots} {σc : L2.St} {x y z d : D}
mutual
/-- other barriers -/
theorem RP.bar {B' ρ' : List Addr} (hb : ∀ p, p ∉ B → p ∉ ρ → p ∉ B' ∧ p ∉ ρ') : ∀ {d : P} {v : V}, RP G B ρ H d v → RP G B' ρ' H d v
  | _, _, .non => .non
  | _, _, .bl b => .bl b
  | _, _, .int i => .int i
  | _, _, .str x => .str x
  | _, _, .fn i => .fn i
  | _, _, .tup s r => .tup s (RPs.bar hb r)
  | _, _, .lst s b n r => .lst s (hb _ b n).1 (hb _ b n).2 (RPs.bar hb r)
  | _, _, .scr s => .scr s
  | _, _, .ty n => .ty n
  | _, _, .tk s => .tk s
theorem RPs.bar {B' ρ' : List Addr} (hb : ∀ p, p ∉ B → p ∉ ρ → p ∉ B' ∧ p ∉ ρ') : ∀ {d : List P} {v : List V}, RPs G B ρ H d v → RPs G B' ρ' H d v
  | _, _, .nil => .nil
  | _, _, .cons r q => .cons (RP.bar hb r) (RPs.bar hb q)
end
mutual
theorem RP.flat {B' ρ' : List Addr} : ∀ {d : P} {v : V}, noLst d = true → RP G B ρ H d v → RP G B' ρ' H d v
  | _, _, _, .non => .non
  | _, _, _, .bl b => .bl b
  | _, _, _, .int i => .int i
  | _, _, _, .str x => .str x
  | _, _, _, .fn i => .fn i
  | _, _, h, .tup s r => .tup s (RPs.flat (by simpa [noLst] using h) r)
  | _, _, h, .lst s b n r => by simp [noLst] at h
  | _, _, _, .scr s => .scr s
  | _, _, _, .ty n => .ty n
  | _, _, _, .tk s => .tk s
theorem RPs.flat {B' ρ' : List Addr} : ∀ {d : List P} {v : List V}, noLsts d = true → RPs G B ρ H d v → RPs G B' ρ' H d v
  | _, _, _, .nil => .nil
  | _, _, h, .cons r q => by
    simp only [noLsts, Bool.and_eq_true] at h
    exact .cons (RP.flat h.1 r) (RPs.flat h.2 q)
end
theorem RP.out (r : RP G B ρ H d' v') : RP G B [] H d' v' := r.bar fun p h _ => ⟨h, by simp⟩
theorem toPs_ok {n : Nat} (ih : ∀ {d : D} {v : V} {x : P}, RV G B ρ H d v → toP S n d = some x → RP G B [] H x v) :
    ∀ {ds : List D} {vs : List V} {ps : List P}, RVs G B ρ H ds vs → ds.mapM (toP S n) = some ps → RPs G B [] H ps vs
  | _, _, _, .nil, e => by
    simp at e
    subst e
    exact .nil
  | d :: ds, v :: vs, ps, .cons r q, e => by
    rw [List.mapM_cons] at e
    cases h1 : toP S n d with
    | none => rw [h1] at e; cases e
    | some x =>
      rw [h1] at e
      cases h2 : ds.mapM (toP S n) with
      | none => rw [h2] at e; cases e
      | some xs =>
        rw [h2] at e
        cases e
        exact .cons (ih r h1) (toPs_ok ih q h2)
theorem toP_ok (hs : Hs G B ρ S H) : ∀ (n : Nat) {d : D} {v : V} {x : P}, RV G B ρ H d v → toP S n d = some x → RP G B [] H x v
  | n, .p x, _, y, .p r, e => by
    cases n with
    | zero => cases e; exact r.out
    | succ n => cases e; exact r.out
  | 0, .loc _, _, _, _, e => by cases e
  | 0, .mix _, _, _, _, e => by cases e
  | 0, .mxl _, _, _, _, e => by cases e
  | n + 1, .loc k, v, y, r, e => by
    unfold toP at e
    split at e
    · rename_i xs hk
      split at e
      · rename_i ps hm
        cases e
        obtain ⟨a, rfl, ha, vs, e1, q⟩ := hs.at_loc r hk
        exact .lst e1 (hs.dis a (List.mem_of_getElem? ha)) (by simp) (toPs_ok (toP_ok hs n) q hm)
      · cases e
    · cases e
  | n + 1, .mix xs, _, y, .mix s q, e => by
    unfold toP at e
    split at e
    · rename_i ps hm
      cases e
      exact .tup (.inl s) (toPs_ok (toP_ok hs n) q hm)
    · cases e
  | n + 1, .mxl xs, _, y, .mxl s b _ q, e => by
    unfold toP at e
    split at e
    · rename_i ps hm
      cases e
      exact .lst s b (by simp) (toPs_ok (toP_ok hs n) q hm)
    · cases e
/-- nothing that was there is touched -/
theorem Fr.all (k : ∀ a o, H a = some o → H' a = some o) : Fr ρ H ρ H' := ⟨List.prefix_refl _, fun a o e _ => k a o e, fun a h n => absurd h n, fun a o u e => k a _ e⟩
theorem Hs.all (h : Hs G B ρ S H) (k : ∀ a o, H a = some o → H' a = some o) : Hs G B ρ S H' := by
  refine ⟨h.len, h.nd, fun a ha => ?_, h.dis, fun i a u e1 e2 => ?_, G.st h.inv fun a o e _ => k a o e⟩
  · obtain ⟨o, e, c⟩ := h.bar a ha
    exact ⟨o, k a o e, c⟩
  · obtain ⟨w, e, _⟩ := h.chg (List.mem_of_getElem? e1)
    exact (h.obj i a u e1 e2).mono (Fr.all k) h (by rw [e]; exact k a w e)
end

/-! ### defs -/
def startD (n : Nat) (ds : List D) : Slots := ds.map some ++ List.replicate (n - ds.length) none
/-- a def whose arguments and result do not change -/
def bodyP (np n : Nat) (m : MS) : List P → Option P := fun ps => if ps.length = np then (match m (startD n (ps.map .p)) [] with
  | some (.rt d, _, S') => toP S' 3 d
  | some (.nx, _, _) => some .non
  | _ => none) else none
/-- a def that shares the store -/
def bodyM (np n : Nat) (m : MS) : List D → Sto → Option (D × Sto) := fun ds S => if ds.length = np then (match m (startD n ds) S with
  | some (.rt d, _, S') => some (d, S')
  | some (.nx, _, S') => some (.p .non, S')
  | _ => none) else none
/-- the barrier, and what else is known -/
def BarOk (G : Gx) (B : List Addr) (H : Hp) : Prop := (∀ a ∈ B, ∃ o, H a = some o ∧ Chg o) ∧ G.inv H
def SpP (G : Gx) (mf : List P → Option P) : Sp := fun vs H Q _ => ∃ B ps r, RPs G B [] H ps vs ∧ BarOk G B H ∧ mf ps = some r ∧
  ∀ vc H', (∀ a o, H a = some o → H' a = some o) → RP G B [] H' r vc → Q vc H'
def SpM (G : Gx) (mf : List D → Sto → Option (D × Sto)) : Sp := fun vs H Q _ => OL G mf vs H Q

section
variable {G : Gx}
theorem start_sl {B ρ : List Addr} {H : Hp} {ds : List D} {vs : List V} (N : List Str) (r : RVs G B ρ H ds vs) : Sl G B ρ H (startD N.length ds) (L2.start N vs) := by
  have hl := r.length
  refine ⟨by simp [startD, L2.start, hl], fun i d e => ?_⟩
  unfold startD at e
  by_cases hi : i < ds.length
  · rw [List.getElem?_append_left (by simpa using hi), List.getElem?_map] at e
    cases q : ds[i]? with
    | none => rw [q] at e; cases e
    | some d' =>
      rw [q] at e
      cases e
      obtain ⟨v, e1, rv⟩ := r.get q
      refine ⟨v, ?_, rv⟩
      unfold L2.start
      rw [List.getElem?_append_left (by simpa [← hl] using hi), List.getElem?_map, e1]
      rfl
  · rw [List.getElem?_append_right (by simpa using hi), List.getElem?_replicate] at e
    split at e <;> cases e
theorem len_P {np n : Nat} {m : MS} {ps : List Str} (h : ps.length = np) : ∀ vs H Q E, SpP G (bodyP np n m) vs H Q E → vs.length = ps.length := fun vs H Q E ⟨B, ds, r, rs, hb, e, k⟩ => by
  unfold bodyP at e
  split at e
  · rename_i hl
    rw [← rs.length, hl, h]
  · cases e
theorem len_M {np n : Nat} {m : MS} {ps : List Str} (h : ps.length = np) : ∀ vs H Q E, SpM G (bodyM np n m) vs H Q E → vs.length = ps.length := fun vs H Q E ⟨B, ρ, S, ds, z, S', hs, rs, e, k⟩ => by
  unfold bodyM at e
  split at e
  · rename_i hl
    rw [← rs.length, hl, h]
  · cases e
theorem read_P {np : Nat} {m : MS} {N : List Str} {vs : List V} {H : Hp} {Q : VK} {E : XK} (h : SpP G (bodyP np N.length m) vs H Q E) : RdS G m { nx := fun _ H' => Q .non H', rt := Q } (L2.start N vs) H := by
  obtain ⟨B, ds, r, rs, hb, e, k⟩ := h
  have hs : Hs G B [] [] H := ⟨rfl, List.nodup_nil, hb.1, fun a h => by simp at h, fun i a o h => by simp at h, hb.2⟩
  unfold bodyP at e
  split at e
  · split at e
    · rename_i d σ' S' hm
      refine ⟨B, [], [], _, _, σ', S', hs, start_sl N rs.toD, hm, fun ρ' vc H' fr hs' rv => ?_⟩
      exact k vc H' (fun a o e => fr.keep a o e (by simp)) (toP_ok hs' 3 rv e)
    · rename_i σ' S' hm
      cases e
      exact ⟨B, [], [], _, _, σ', S', hs, start_sl N rs.toD, hm, fun ρ' vc H' fr hs' rv => k _ H' (fun a o e => fr.keep a o e (by simp)) .non⟩
    · cases e
  · cases e
theorem read_M {np : Nat} {m : MS} {N : List Str} {vs : List V} {H : Hp} {Q : VK} {E : XK} (h : SpM G (bodyM np N.length m) vs H Q E) : RdS G m { nx := fun _ H' => Q .non H', rt := Q } (L2.start N vs) H := by
  obtain ⟨B, ρ, S, ds, z, S', hs, rs, e, k⟩ := h
  unfold bodyM at e
  split at e
  · split at e
    · rename_i d σ' S' hm
      cases e
      exact ⟨B, ρ, S, _, _, σ', _, hs, start_sl N rs, hm, fun ρ' vc H' fr hs' rv => k ρ' vc H' fr hs' rv⟩
    · rename_i σ' S' hm
      cases e
      exact ⟨B, ρ, S, _, _, σ', _, hs, start_sl N rs, hm, fun ρ' vc H' fr hs' rv => k ρ' _ H' fr hs' (.p .non)⟩
    · cases e
  · cases e
end

/-! ### calls -/
def callP (mf : List P → Option P) (ds : List D) (S : Sto) : Option (D × Sto) := match allP ds with
  | some ps => (match mf ps with
    | some r => some (.p r, S)
    | none => none)
  | none => match ds.mapM (toP S 3) with
    | some ps => (match mf ps with
      | some r => if noLst r = true then some (.p r, S) else none
      | none => none)
    | none => none
def mCall (f : List D → Sto → Option (D × Sto)) (a : MA) : ME := fun σ S => match a σ S with
  | none => none
  | some (ds, S1) => f ds S1
section
variable {G : Gx}
theorem callP_ok {mf : List P → Option P} {vs : List V} {H : Hp} {Q : VK} {E : XK} (h : OL G (callP mf) vs H Q) : SpP G mf vs H Q E := by
  obtain ⟨B, ρ, S, ds, z, S', hs, rs, e, k⟩ := h
  have bar : ∀ a ∈ B ++ ρ, ∃ o, H a = some o ∧ Chg o := fun a ha => by
    rcases List.mem_append.mp ha with ha | ha
    · exact hs.bar a ha
    · exact hs.chg ha
  unfold callP at e
  split at e
  · rename_i ps hp
    split at e
    · rename_i r hr
      cases e
      rw [allP_eq hp] at rs
      refine ⟨B ++ ρ, ps, r, rs.toP.bar fun p h1 h2 => ⟨by simp [h1, h2], by simp⟩, ⟨bar, hs.inv⟩, hr, fun vc H' kp rr => ?_⟩
      exact k ρ vc H' (Fr.all kp) (hs.all kp) (.p (rr.bar fun p h1 h2 => by
        simp only [List.mem_append, not_or] at h1
        exact h1))
    · cases e
  · split at e
    · rename_i ps hp
      split at e
      · rename_i r hr
        split at e
        · rename_i hn
          cases e
          refine ⟨B, ps, r, toPs_ok (toP_ok hs 3) rs hp, ⟨hs.bar, hs.inv⟩, hr, fun vc H' kp rr => ?_⟩
          exact k ρ vc H' (Fr.all kp) (hs.all kp) (.p (rr.flat hn))
        · cases e
      · cases e
    · cases e
end
/-- a def as it stands: its promise, its name, how it is called -/
structure DefOk (P : Program) (w : World) (K : PySem.W.Frag) (mg : Str → Option Value) (base : Heap) (x : Str) (k : Nat) (sp : Sp) : Prop where
  ex : ∃ (f : Addr) (fd : FuncData) (ps : List Str), FnOk P w K mg base CX0 k f fd ps sp ∧ mg x = some (.ref f) ∧ PySem.W.keepIn K (.ref f) = true ∧ Binds K fd ps []
section
variable {X : Cx} {G : Gx} {k : Nat} {x : Str} {p pos apos : Pos} {e o : Expr} {es : List Expr} {mr : MA} {sp : Sp} {mf : List P → Option P} {mm : List D → Sto → Option (D × Sto)}
theorem RdA_call {f : List D → Sto → Option (D × Sto)} {σc : L2.St} {H : Hp} {Q : VK} (h : RdE G (mCall f mr) σc H Q) : RdA G mr σc H fun vs H1 => OL G f vs H1 Q := by
  obtain ⟨B, ρ, S, σ, v, S', hs, sl, e, q⟩ := h
  unfold mCall at e
  cases ea : mr σ S with
  | none => rw [ea] at e; cases e
  | some p =>
    obtain ⟨ds, S1⟩ := p
    simp only [ea] at e
    exact ⟨B, ρ, S, σ, ds, S1, hs, sl, ea, fun ρ1 vs H1 fr hs1 rs => ⟨B, ρ1, S1, ds, v, S', hs1, rs, e, Po.step fr q⟩⟩
theorem RdA_imp {σc : L2.St} {H : Hp} {Q Q' : List V → Hp → Prop} (h : RdA G mr σc H Q) (k : ∀ v H, Q v H → Q' v H) : RdA G mr σc H Q' := by
  obtain ⟨B, ρ, S, σ, v, S', hs, sl, e, q⟩ := h
  exact ⟨B, ρ, S, σ, v, S', hs, sl, e, fun ρ' vc H' fr hs' rv => k _ _ (q ρ' vc H' fr hs' rv)⟩
theorem e_callP (C : DefOk X.prog X.w X.K X.mg X.base x k (SpP G mf)) (hr : Room k X.A) (hg : Gl X x) (ha : PA X (e :: es) (RdA G mr)) (hdb : (x == ("__debug__" : Str)) = false := by decide)
    (he : starEach (e :: es) X.env = (false, eval e X.env) :: starEach es X.env := by rfl) (hpl : (backTo pos (starEach es X.env)).any (·.1) = false := by rfl) :
    PE X (.Call (.Name x p) (e :: es) [] pos) (RdE G (mCall (callP mf) mr)) := by
  obtain ⟨f, fd, ps, F, hm, hk, hb⟩ := C.ex
  refine PE_imp (pe_call F hr hg hm hk hb .nil pass0 ha hdb he hpl) fun σ H Q h => ?_
  exact RdA_imp (RdA_call h) fun vs H1 q => by
    rw [List.append_nil]
    exact callP_ok q
theorem e_callM (C : DefOk X.prog X.w X.K X.mg X.base x k (SpM G mm)) (hr : Room k X.A) (hg : Gl X x) (ha : PA X (e :: es) (RdA G mr)) (hdb : (x == ("__debug__" : Str)) = false := by decide)
    (he : starEach (e :: es) X.env = (false, eval e X.env) :: starEach es X.env := by rfl) (hpl : (backTo pos (starEach es X.env)).any (·.1) = false := by rfl) :
    PE X (.Call (.Name x p) (e :: es) [] pos) (RdE G (mCall mm mr)) := by
  obtain ⟨f, fd, ps, F, hm, hk, hb⟩ := C.ex
  refine PE_imp (pe_call F hr hg hm hk hb .nil pass0 ha hdb he hpl) fun σ H Q h => ?_
  exact RdA_imp (RdA_call h) fun vs H1 q => by
    rw [List.append_nil]
    exact q
end
end Rf
end

section
set_option Elab.async false
set_option linter.all false
set_option maxRecDepth 100000
set_option maxHeartbeats 4000000
/-! Rf4: statements, loops. -/
namespace Rf
open PySem L2

def sNx : MS := fun σ S => some (.nx, σ, S)
def sBk : MS := fun σ S => some (.bk, σ, S)
def sCt : MS := fun σ S => some (.ct, σ, S)
def sNever : MS := fun _ _ => none
def sSeq (a b : MS) : MS := fun σ S => match a σ S with
  | none => none
  | some (.nx, σ1, S1) => b σ1 S1
  | some r => some r
def sExp (a : ME) : MS := fun σ S => match a σ S with
  | none => none
  | some (_, S1) => some (.nx, σ, S1)
def sRet (a : ME) : MS := fun σ S => match a σ S with
  | none => none
  | some (d, S1) => some (.rt d, σ, S1)
def sRetN : MS := fun σ S => some (.rt (.p .non), σ, S)
def sIf (t : MT) (a b : MS) : MS := fun σ S => match t σ S with
  | none => none
  | some (true, S1) => a σ S1
  | some (false, S1) => b σ S1
def gNm (i : Nat) : MG := fun d σ S => some (σ.set i (some d), S)
def sAsg (e : ME) (g : MG) : MS := fun σ S => match e σ S with
  | none => none
  | some (d, S1) => match g d σ S1 with
    | none => none
    | some (σ1, S2) => some (.nx, σ1, S2)
abbrev MGs := List D → Slots → Sto → Option (Slots × Sto)
def gNil' : MGs := fun ds σ S => match ds with
  | [] => some (σ, S)
  | _ => none
def gCons' (g : MG) (r : MGs) : MGs := fun ds σ S => match ds with
  | d :: ds => (match g d σ S with
    | none => none
    | some (σ1, S1) => r ds σ1 S1)
  | [] => none
def asTup : D → Option (List D)
  | .p (.tup xs) => some (xs.map .p)
  | .mix xs => some xs
  | _ => none
def gTp (gs : MGs) : MG := fun d σ S => match asTup d with
  | none => none
  | some ds => gs ds σ S
def sAug (i : Nat) (e : ME) (f : D → D → Sto → Option (D × Sto)) : MS := fun σ S => match σ[i]? with
  | some (some x) => (match e σ S with
    | none => none
    | some (y, S1) => match f x y S1 with
      | none => none
      | some (z, S2) => some (.nx, σ.set i (some z), S2))
  | _ => none
/-- a store into an object, by values -/
def gSb (o i : ME) (f : D → D → D → Sto → Option Sto) : MG := fun d σ S => match o σ S with
  | none => none
  | some (x, S1) => match i σ S1 with
    | none => none
    | some (y, S2) => match f x y d S2 with
      | none => none
      | some S3 => some (σ, S3)
def sWhile (t : MT) (b : MS) : Nat → MS
  | 0 => fun _ _ => none
  | n + 1 => fun σ S => match t σ S with
    | none => none
    | some (false, S1) => some (.nx, σ, S1)
    | some (true, S1) => match b σ S1 with
      | none => none
      | some (.nx, σ2, S2) => sWhile t b n σ2 S2
      | some (.ct, σ2, S2) => sWhile t b n σ2 S2
      | some (.bk, σ2, S2) => some (.nx, σ2, S2)
      | some (.rt d, σ2, S2) => some (.rt d, σ2, S2)
/-- what is walked: items; a list as it stands at each turn -/
inductive Src where
  | items (xs : List D) | live (n : Nat)
abbrev MI := Slots → Sto → Option (Src × Sto)
def forL (g : MG) (b : MS) : List D → MS
  | [] => fun σ S => some (.nx, σ, S)
  | x :: r => fun σ S => match g x σ S with
    | none => none
    | some (σ1, S1) => match b σ1 S1 with
      | none => none
      | some (.nx, σ2, S2) => forL g b r σ2 S2
      | some (.ct, σ2, S2) => forL g b r σ2 S2
      | some (.bk, σ2, S2) => some (.nx, σ2, S2)
      | some (.rt d, σ2, S2) => some (.rt d, σ2, S2)
def liveAt (n : Nat) (S : Sto) : Option (List D) := match S[n]? with
  | some (.lst xs) => some xs
  | _ => none
def forV (g : MG) (b : MS) (n : Nat) : Nat → Nat → MS
  | 0, i => fun σ S => match liveAt n S with
    | some xs => if xs.length ≤ i then some (.nx, σ, S) else none
    | none => none
  | r + 1, i => fun σ S => match liveAt n S with
    | none => none
    | some xs => match xs[i]? with
      | none => none
      | some x => match g x σ S with
        | none => none
        | some (σ1, S1) => match b σ1 S1 with
          | none => none
          | some (.nx, σ2, S2) => forV g b n r (i + 1) σ2 S2
          | some (.ct, σ2, S2) => forV g b n r (i + 1) σ2 S2
          | some (.bk, σ2, S2) => some (.nx, σ2, S2)
          | some (.rt d, σ2, S2) => some (.rt d, σ2, S2)
def sFor (mi : MI) (g : MG) (b : MS) : MS := fun σ S => match mi σ S with
  | none => none
  | some (.items xs, S1) => forL g b xs σ S1
  | some (.live n, S1) => match liveAt n S1 with
    | none => none
    | some xs => forV g b n xs.length 0 σ S1

section
variable {G : Gx} {B ρ ρ1 ρ' : List Addr} {S S1 S2 S' : Sto} {H H1 H' : Hp} {σ σ' : Slots} {σc : L2.St} {x y z d : D} {E D' : Ends} {f : Fl}
theorem EndOk.step (fr : Fr ρ H ρ1 H1) (k : EndOk G B ρ H E σ' S' f) : EndOk G B ρ1 H1 E σ' S' f := by
  cases f with
  | nx => exact fun ρ' σc' H' fr' hs sl => k ρ' σc' H' (fr.trans fr') hs sl
  | bk => exact fun ρ' σc' H' fr' hs sl => k ρ' σc' H' (fr.trans fr') hs sl
  | ct => exact fun ρ' σc' H' fr' hs sl => k ρ' σc' H' (fr.trans fr') hs sl
  | rt d => exact fun ρ' σc' H' fr' hs sl => k ρ' σc' H' (fr.trans fr') hs sl
/-- targets, statements by one more word: arguments of a set by values -/
def OS (G : Gx) (f : D → D → D → Sto → Option Sto) : TSet := fun oc ic vc H Q => ∃ B ρ S o i d S', Hs G B ρ S H ∧ RV G B ρ H o oc ∧ RV G B ρ H i ic ∧ RV G B ρ H d vc ∧ f o i d S = some S' ∧ ∀ ρ' H', Fr ρ H ρ' H' → Hs G B ρ' S' H' → Q H'
def RdGs (G : Gx) (m : MGs) : TGs := fun vs σc H Q => ∃ B ρ S σ ds σ' S', Hs G B ρ S H ∧ Sl G B ρ H σ σc ∧ RVs G B ρ H ds vs ∧ m ds σ S = some (σ', S') ∧
  ∀ ρ' σc' H', Fr ρ H ρ' H' → Hs G B ρ' S' H' → Sl G B ρ' H' σ' σc' → Q σc' H'
/-- what is walked stands for a source, now and later -/
def RJ (G : Gx) (B ρ : List Addr) (H : Hp) (J : It) : Src → Prop
  | .items xs => ∀ B' ρ' S' H', (∀ b ∈ B', b ∈ B ∨ H b = none) → Fw B ρ H ρ' H' → Hs G B' ρ' S' H' → ∀ i : Nat, (∀ d, xs[i]? = some d → J.go i H' ∧ ∀ x H'', J.yld i H' x H'' → Fr ρ' H' ρ' H'' ∧ Hs G B' ρ' S' H'' ∧ RV G B' ρ' H'' d x) ∧ (xs.length ≤ i → J.stop i H')
  | .live n => ∀ B' ρ' S' H', (∀ b ∈ B', b ∈ B ∨ H b = none) → Fw B ρ H ρ' H' → Hs G B' ρ' S' H' → ∀ xs, liveAt n S' = some xs → ∀ i : Nat, (∀ d, xs[i]? = some d → J.go i H' ∧ ∀ x H'', J.yld i H' x H'' → Fr ρ' H' ρ' H'' ∧ Hs G B' ρ' S' H'' ∧ RV G B' ρ' H'' d x) ∧ (xs.length ≤ i → J.stop i H')
def RdI (G : Gx) (m : MI) : TI := fun σc H R => ∃ B ρ S σ src S', Hs G B ρ S H ∧ Sl G B ρ H σ σc ∧ m σ S = some (src, S') ∧
  ∀ ρ' H' J, Fr ρ H ρ' H' → Hs G B ρ' S' H' → RJ G B ρ' H' J src → R J H'
end

section
variable {X : Cx} {G : Gx} {a b c : Expr} {es : List Expr} {ma mb mc : ME} {mt mu : MT} {ms mv : MS} {mg : MG} {mgs : MGs} {mi : MI} {pos : Pos} {st : Stmt} {rest sts : List Stmt} {tg iter : Expr}
theorem PI_imp {t t' : TI} (h : PI X tg iter t) (k : ∀ σ H Q, t' σ H Q → t σ H Q) : PI X tg iter t' := ⟨fun pins s σ H Q I q => h.run pins s σ H Q I (k σ H Q q)⟩
theorem PGs_imp {e : List Expr} {t t' : TGs} (h : PGs X e t) (k : ∀ v σ H Q, t' v σ H Q → t v σ H Q) : PGs X e t' := ⟨fun pins s σ H v u Q I r q => h.run pins s σ H v u Q I r (k v σ H Q q)⟩
theorem s_nil : PSs X [] (RdS G sNx) := PSs_imp pss_nil fun D σc H ⟨B, ρ, S, σ, f, σ', S', hs, sl, e, k⟩ => by
  cases e
  exact k ρ σc H Fr.refl hs sl
theorem s_pass : PS X (.Pass pos) (RdS G sNx) := PS_imp ps_pass fun D σc H ⟨B, ρ, S, σ, f, σ', S', hs, sl, e, k⟩ => by
  cases e
  exact k ρ σc H Fr.refl hs sl
theorem s_break : PS X (.Break pos) (RdS G sBk) := PS_imp ps_break fun D σc H ⟨B, ρ, S, σ, f, σ', S', hs, sl, e, k⟩ => by
  cases e
  exact k ρ σc H Fr.refl hs sl
theorem s_continue : PS X (.Continue pos) (RdS G sCt) := PS_imp ps_continue fun D σc H ⟨B, ρ, S, σ, f, σ', S', hs, sl, e, k⟩ => by
  cases e
  exact k ρ σc H Fr.refl hs sl
theorem s_never : PS X st (RdS G sNever) := PS_imp ps_never fun D σc H ⟨B, ρ, S, σ, f, σ', S', hs, sl, e, k⟩ => by cases e
theorem s_nevers : PSs X sts (RdS G sNever) := PSs_imp pss_never fun D σc H ⟨B, ρ, S, σ, f, σ', S', hs, sl, e, k⟩ => by cases e
theorem RdS_seq {D : Ends} {σc : L2.St} {H : Hp} (h : RdS G (sSeq ms mv) D σc H) : tSeq (RdS G ms) (RdS G mv) D σc H := by
  obtain ⟨B, ρ, S, σ, f, σ', S', hs, sl, e, k⟩ := h
  unfold sSeq at e
  cases ea : ms σ S with
  | none => rw [ea] at e; cases e
  | some p =>
    obtain ⟨f1, σ1, S1⟩ := p
    rw [ea] at e
    cases f1 with
    | nx => exact ⟨B, ρ, S, σ, .nx, σ1, S1, hs, sl, ea, fun ρ1 σc1 H1 fr hs1 sl1 => ⟨B, ρ1, S1, σ1, f, σ', S', hs1, sl1, e, k.step fr⟩⟩
    | bk => cases e; exact ⟨B, ρ, S, σ, .bk, _, _, hs, sl, ea, k⟩
    | ct => cases e; exact ⟨B, ρ, S, σ, .ct, _, _, hs, sl, ea, k⟩
    | rt d => cases e; exact ⟨B, ρ, S, σ, .rt d, _, _, hs, sl, ea, k⟩
theorem s_cons (h1 : PS X st (RdS G ms)) (h2 : PSs X rest (RdS G mv)) : PSs X (st :: rest) (RdS G (sSeq ms mv)) := PSs_imp (pss_cons h1 h2) fun _ _ _ h => RdS_seq h
theorem s_one (h1 : PS X st (RdS G ms)) : PSs X [st] (RdS G ms) := pss_one h1
theorem s_expr (he : PE X a (RdE G ma)) (hs : swapsWith a none pos.line X.env = pure false := by rfl) : PS X (.Expr a pos) (RdS G (sExp ma)) :=
  PS_imp (ps_expr he hs) fun D σc H ⟨B, ρ, S, σ, f, σ', S', hs, sl, e, k⟩ => by
    unfold sExp at e
    cases ea : ma σ S with
    | none => rw [ea] at e; cases e
    | some p =>
      obtain ⟨x, S1⟩ := p
      rw [ea] at e
      cases e
      exact ⟨B, ρ, S, _, x, _, hs, sl, ea, fun ρ1 xc H1 fr hs1 rx => k ρ1 σc H1 fr hs1 (sl.mono fr hs)⟩
theorem s_ret (he : PE X a (RdE G ma)) : PS X (.Return (some a) pos) (RdS G (sRet ma)) :=
  PS_imp (ps_ret he) fun D σc H ⟨B, ρ, S, σ, f, σ', S', hs, sl, e, k⟩ => by
    unfold sRet at e
    cases ea : ma σ S with
    | none => rw [ea] at e; cases e
    | some p =>
      obtain ⟨x, S1⟩ := p
      rw [ea] at e
      cases e
      exact ⟨B, ρ, S, _, x, _, hs, sl, ea, k⟩
theorem s_retN : PS X (.Return none pos) (RdS G sRetN) := PS_imp ps_retN fun D σc H ⟨B, ρ, S, σ, f, σ', S', hs, sl, e, k⟩ => by
  cases e
  exact k ρ _ H Fr.refl hs (.p .non)
theorem s_if (hc : PT X c (RdT G mt)) (ha : PSs X sts (RdS G ms)) (hb : PSs X rest (RdS G mv)) : PS X (.If c sts rest pos) (RdS G (sIf mt ms mv)) :=
  PS_imp (ps_if hc ha hb) fun D σc H ⟨B, ρ, S, σ, f, σ', S', hs, sl, e, k⟩ => by
    unfold sIf at e
    cases ea : mt σ S with
    | none => rw [ea] at e; cases e
    | some p =>
      obtain ⟨t, S1⟩ := p
      rw [ea] at e
      refine ⟨B, ρ, S, σ, t, S1, hs, sl, ea, fun ρ1 H1 fr hs1 => ?_⟩
      cases t with
      | true => exact ⟨B, ρ1, S1, σ, f, σ', S', hs1, sl.mono fr hs, e, k.step fr⟩
      | false => exact ⟨B, ρ1, S1, σ, f, σ', S', hs1, sl.mono fr hs, e, k.step fr⟩
/-! targets -/
theorem g_name {i : Nat} {x : Str} (hN : X.N.Nodup) (hi : X.N[i]? = some x) (hx : Loc X.env.scope x) (hf : X.fn x = true ∨ X.env.scope.names.lookup x = some .local := by first | exact .inl rfl | exact .inr rfl | assumption) : PG X (.Name x pos) (RdG G (gNm i)) :=
  PG_imp (pg_name hN hi hx hf) fun v σc H Q ⟨B, ρ, S, σ, d, σ', S', hs, sl, r, e, k⟩ => by
    cases e
    exact k ρ _ H Fr.refl hs (sl.set i r)
theorem gs_nil : PGs X [] (RdGs G gNil') := PGs_imp pgs_nil fun vs σc H Q ⟨B, ρ, S, σ, ds, σ', S', hs, sl, r, e, k⟩ => by
  cases r with
  | nil =>
    cases e
    exact ⟨rfl, k ρ _ H Fr.refl hs sl⟩
  | cons _ _ => cases e
theorem gs_cons {tg : Expr} {tgs : List Expr} (h1 : PG X tg (RdG G mg)) (h2 : PGs X tgs (RdGs G mgs)) (hm : (assignEach (tg :: tgs) X.env).map (·.2) = assign tg X.env :: (assignEach tgs X.env).map (·.2) := by rfl) : PGs X (tg :: tgs) (RdGs G (gCons' mg mgs)) := PGs_imp (pgs_cons h1 h2 hm) fun vs σc H Q ⟨B, ρ, S, σ, ds, σ', S', hs, sl, r, e, k⟩ => by
  cases r with
  | nil => cases e
  | @cons d v ds vs r rs =>
    unfold gCons' at e
    cases ea : mg d σ S with
    | none => simp only [ea] at e; cases e
    | some p =>
      obtain ⟨σ1, S1⟩ := p
      simp only [ea] at e
      exact ⟨v, vs, rfl, B, ρ, S, σ, d, σ1, S1, hs, sl, r, ea, fun ρ1 σc1 H1 fr hs1 sl1 => ⟨B, ρ1, S1, σ1, ds, σ', S', hs1, sl1, rs.mono fr hs, e, fun ρ2 σc2 H2 fr2 => k ρ2 σc2 H2 (fr.trans fr2)⟩⟩
theorem asTup_ok {B ρ : List Addr} {H : Hp} {d : D} {v : V} {ds : List D} (e : asTup d = some ds) (r : RV G B ρ H d v) : ∃ a vs, v = .ref a ∧ SqT G.K H a vs ∧ RVs G B ρ H ds vs := by
  cases r with
  | p q =>
    cases q with
    | tup s t => cases e; exact ⟨_, _, rfl, s.sqt, t.toD⟩
    | _ => cases e
  | loc _ => cases e
  | mix s t => cases e; exact ⟨_, _, rfl, s.sqt, t⟩
  | mxl _ _ _ _ => cases e
theorem gLen {mg : MG} {mgs : MGs} {ds : List D} {σ : Slots} {S : Sto} {r : Slots × Sto} : gCons' mg mgs ds σ S = some r → ∃ d e, ds = d :: e := fun e => by
  unfold gCons' at e
  cases ds with
  | nil => cases e
  | cons d t => exact ⟨d, t, rfl⟩
def gTpN (n : Nat) (gs : MGs) : MG := fun d σ S => match asTup d with
  | none => none
  | some ds => if ds.length = n then gs ds σ S else none
theorem g_tup {k n : Nat} (hK : X.K = G.K) (hc : X.calm = true) (h : PGs X es (RdGs G mgs)) (hn : (assignEach es X.env).length = n := by rfl) (hst : (assignEach es X.env).findIdx? (·.1) = none := by rfl) : PG X (.Tuple es k pos) (RdG G (gTpN n mgs)) :=
  PG_imp (pg_tup hc h hn hst) fun v σc H Q ⟨B, ρ, S, σ, d, σ', S', hs, sl, r, e, k⟩ => by
    unfold gTpN at e
    split at e
    · cases e
    · rename_i ds hd
      split at e
      · rename_i hl
        obtain ⟨a, vs, rfl, sq, rs⟩ := asTup_ok hd r
        exact ⟨a, vs, rfl, by rw [hK]; exact sq, by rw [← rs.length]; exact hl, B, ρ, S, σ, ds, σ', S', hs, sl, rs, e, k⟩
      · cases e
theorem g_sub {o i : Expr} {mo mj : ME} {f : D → D → D → Sto → Option Sto} (ho : PE X o (RdE G mo)) (hi : PE X i (RdE G mj)) (hs : PSet X (OS G f))
    (ha : ∀ v, assign (.Subscript o i pos) X.env v = (do
      let ov ← holding [v] (eval o X.env)
      let iv ← holding [v, ov] (eval i X.env)
      standAt pos
      holding [v, ov, iv] (setItem ov iv v)
      release [v, ov, iv] []) := by intro _; rfl) : PG X (.Subscript o i pos) (RdG G (gSb mo mj f)) :=
  PG_imp (pg_sub ho hi hs ha) fun v σc H Q ⟨B, ρ, S, σ, d, σ', S', hs, sl, r, e, k⟩ => by
    unfold gSb at e
    cases ea : mo σ S with
    | none => rw [ea] at e; cases e
    | some p =>
      obtain ⟨x, S1⟩ := p
      simp only [ea] at e
      cases eb : mj σ S1 with
      | none => rw [eb] at e; cases e
      | some p =>
        obtain ⟨y, S2⟩ := p
        simp only [eb] at e
        cases ef : f x y d S2 with
        | none => rw [ef] at e; cases e
        | some S3 =>
          rw [ef] at e
          cases e
          refine RdE.two hs sl ea eb fun ρ2 xc yc H2 fr hs2 rx ry => ⟨B, ρ2, S2, x, y, d, _, hs2, rx, ry, r.mono fr hs, ef, fun ρ' H' fr' hs' => k ρ' σc H' (fr.trans fr') hs' (sl.mono (fr.trans fr') hs)⟩
theorem s_asg {tg : Expr} (he : PE X a (RdE G ma)) (hg : PG X tg (RdG G mg)) (hs : swapsWithSole [tg] a pos.line X.env = pure false := by rfl) (hw : swappedStores [tg] a X.env = pure none := by rfl) (h1 : (assignEach [tg] X.env).map (·.2) = [assign tg X.env] := by rfl) : PS X (.Assign [tg] a pos) (RdS G (sAsg ma mg)) :=
  PS_imp (ps_asg he hg hs hw h1) fun D σc H ⟨B, ρ, S, σ, f, σ', S', hs, sl, e, k⟩ => by
    unfold sAsg at e
    cases ea : ma σ S with
    | none => rw [ea] at e; cases e
    | some p =>
      obtain ⟨d, S1⟩ := p
      simp only [ea] at e
      cases eb : mg d σ S1 with
      | none => rw [eb] at e; cases e
      | some p =>
        obtain ⟨σ1, S2⟩ := p
        rw [eb] at e
        cases e
        exact ⟨B, ρ, S, σ, d, S1, hs, sl, ea, fun ρ1 xc H1 fr hs1 rx => ⟨B, ρ1, S1, σ, d, _, _, hs1, sl.mono fr hs, rx, eb, fun ρ2 σc2 H2 fr2 => k ρ2 σc2 H2 (fr.trans fr2)⟩⟩
theorem s_aug {i : Nat} {x : Str} {op : Operator} {f : D → D → Sto → Option (D × Sto)} {pos' : Pos} (hN : X.N.Nodup) (hi : X.N[i]? = some x) (hx : Loc X.env.scope x) (he : PE X a (RdE G ma)) (ho : PIp X op (O2 G f)) (hf : X.fn x = true ∨ X.env.scope.names.lookup x = some .local := by first | exact .inl rfl | exact .inr rfl | assumption) :
    PS X (.AugAssign (.Name x pos') op a pos) (RdS G (sAug i ma f)) :=
  PS_imp (ps_aug hN hi hx he ho hf) fun D σc H ⟨B, ρ, S, σ, fl, σ', S', hs, sl, e, k⟩ => by
    unfold sAug at e
    split at e
    · rename_i d hd
      cases ea : ma σ S with
      | none => rw [ea] at e; cases e
      | some p =>
        obtain ⟨y, S1⟩ := p
        simp only [ea] at e
        cases ef : f d y S1 with
        | none => rw [ef] at e; cases e
        | some p =>
          obtain ⟨z, S2⟩ := p
          rw [ef] at e
          cases e
          obtain ⟨v, e1, r⟩ := sl.at_ i d hd
          exact ⟨v, e1, B, ρ, S, σ, y, S1, hs, sl, ea, fun ρ1 yc H1 fr hs1 ry => ⟨B, ρ1, S1, d, y, z, _, hs1, r.mono fr hs, ry, ef, fun ρ2 zc H2 fr2 hs2 rz => k ρ2 _ H2 (fr.trans fr2) hs2 ((sl.mono (fr.trans fr2) hs).set i rz)⟩⟩
    · cases e
theorem s_while (n : Nat) (hp : PassesOwn (model X.prog X.w) X.A X.env X.xe) (hc : PT X c (RdT G mt)) (hb : PSs X sts (RdS G ms)) : PS X (.While c sts [] pos) (RdS G (sWhile mt ms n)) :=
  PS_imp (ps_while hp hc hb) fun D σc H ⟨B, ρ, S, σ, fl, σ', S', hs, sl, e, k⟩ => by
    refine ⟨fun m σc1 H1 => ∃ ρ1 σ1 S1 f1 σ2 S2, Fr ρ H ρ1 H1 ∧ Hs G B ρ1 S1 H1 ∧ Sl G B ρ1 H1 σ1 σc1 ∧ sWhile mt ms m σ1 S1 = some (f1, σ2, S2) ∧ EndOk G B ρ1 H1 D σ2 S2 f1, ⟨n, ρ, σ, S, fl, σ', S', Fr.refl, hs, sl, e, k⟩, ?_⟩
    rintro m σc1 H1 ⟨ρ1, σ1, S1, f1, σ2, S2, fr, hs1, sl1, e1, k1⟩
    cases m with
    | zero => cases e1
    | succ m =>
      unfold sWhile at e1
      cases ea : mt σ1 S1 with
      | none => rw [ea] at e1; cases e1
      | some p =>
        obtain ⟨t, S3⟩ := p
        rw [ea] at e1
        refine ⟨B, ρ1, S1, σ1, t, S3, hs1, sl1, ea, fun ρ3 H3 fr3 hs3 => ?_⟩
        cases t with
        | false =>
          cases e1
          rw [if_neg Bool.false_ne_true]
          exact k1 ρ3 σc1 H3 fr3 hs3 (sl1.mono fr3 hs1)
        | true =>
          rw [if_pos rfl]
          refine ⟨fun σc4 H4 => ∃ m', m' < m + 1 ∧ ∃ ρ4 σ4 S4 f4 σ5 S5, Fr ρ H ρ4 H4 ∧ Hs G B ρ4 S4 H4 ∧ Sl G B ρ4 H4 σ4 σc4 ∧ sWhile mt ms m' σ4 S4 = some (f4, σ5, S5) ∧ EndOk G B ρ4 H4 D σ5 S5 f4, fun _ _ h => h, ?_⟩
          cases eb : ms σ1 S3 with
          | none => simp only [eb] at e1; cases e1
          | some p =>
            obtain ⟨f5, σ5, S5⟩ := p
            simp only [eb] at e1
            refine ⟨B, ρ3, S3, σ1, f5, σ5, S5, hs3, sl1.mono fr3 hs1, eb, ?_⟩
            have kk := k1.step fr3
            cases f5 with
            | nx => exact fun ρ6 σc6 H6 fr6 hs6 sl6 => ⟨m, Nat.lt_succ_self m, ρ6, σ5, S5, f1, σ2, S2, (fr.trans fr3).trans fr6, hs6, sl6, e1, kk.step fr6⟩
            | ct => exact fun ρ6 σc6 H6 fr6 hs6 sl6 => ⟨m, Nat.lt_succ_self m, ρ6, σ5, S5, f1, σ2, S2, (fr.trans fr3).trans fr6, hs6, sl6, e1, kk.step fr6⟩
            | bk =>
              cases e1
              exact fun ρ6 σc6 H6 fr6 hs6 sl6 => kk ρ6 σc6 H6 fr6 hs6 sl6
            | rt d =>
              cases e1
              exact fun ρ6 vc H6 fr6 hs6 r6 => kk ρ6 vc H6 fr6 hs6 r6
/-- a for over items that do not change -/
theorem forL_ok {D' : Ends} {J : It} {B ρ : List Addr} {S : Sto} {H : Hp} {σ : Slots} {σc : L2.St} {xs : List D} {f : Fl} {σ' : Slots} {S' : Sto} {g : TG} {tb : TS} (hg : g = RdG G mg) (hb : tb = RdS G ms) (hs : Hs G B ρ S H) (sl : Sl G B ρ H σ σc) (rj : RJ G B ρ H J (.items xs))
    (e : forL mg ms xs σ S = some (f, σ', S')) (k : EndOk G B ρ H D' σ' S' f) :
    ∃ W : Nat → Nat → L2.St → Hp → Prop, (∃ m, W 0 m σc H) ∧ ∀ i m σ H, W i m σ H →
      (J.stop i H ∧ D'.nx σ H) ∨ (J.go i H ∧ ∃ N : L2.St → Hp → Prop, (∀ σ' H', N σ' H' → ∃ m', m' < m ∧ W (i + 1) m' σ' H') ∧ ∀ x H', J.yld i H x H' → g x σ H' fun σ2 H2 => tb { D' with nx := N, ct := N, bk := D'.nx } σ2 H2) := by
  subst hg
  subst hb
  refine ⟨fun i m σc1 H1 => i + m = xs.length ∧ ∃ ρ1 σ1 S1 f1 σ2 S2, Fr ρ H ρ1 H1 ∧ Hs G B ρ1 S1 H1 ∧ Sl G B ρ1 H1 σ1 σc1 ∧ forL mg ms (xs.drop i) σ1 S1 = some (f1, σ2, S2) ∧ EndOk G B ρ1 H1 D' σ2 S2 f1, ⟨xs.length, Nat.zero_add _, ρ, σ, S, f, σ', S', Fr.refl, hs, sl, e, k⟩, ?_⟩
  rintro i m σc1 H1 ⟨hm, ρ1, σ1, S1, f1, σ2, S2, fr, hs1, sl1, e1, k1⟩
  obtain ⟨go, stop⟩ := rj B ρ1 S1 H1 (fun b h => .inl h) fr.w hs1 i
  cases m with
  | zero =>
    rw [List.drop_of_length_le (by omega)] at e1
    cases e1
    exact .inl ⟨stop (by omega), k1 ρ1 σc1 H1 Fr.refl hs1 sl1⟩
  | succ m =>
    have hi : i < xs.length := by omega
    rw [List.drop_eq_getElem_cons hi] at e1
    obtain ⟨g1, g2⟩ := go xs[i] (List.getElem?_eq_getElem hi)
    unfold forL at e1
    cases ea : mg xs[i] σ1 S1 with
    | none => rw [ea] at e1; cases e1
    | some p =>
      obtain ⟨σ3, S3⟩ := p
      simp only [ea] at e1
      cases eb : ms σ3 S3 with
      | none => rw [eb] at e1; cases e1
      | some p =>
        obtain ⟨f5, σ5, S5⟩ := p
        simp only [eb] at e1
        refine .inr ⟨g1, fun σc4 H4 => ∃ m', m' < m + 1 ∧ i + 1 + m' = xs.length ∧ ∃ ρ4 σ4 S4 f4 σ5 S5, Fr ρ H ρ4 H4 ∧ Hs G B ρ4 S4 H4 ∧ Sl G B ρ4 H4 σ4 σc4 ∧ forL mg ms (xs.drop (i + 1)) σ4 S4 = some (f4, σ5, S5) ∧ EndOk G B ρ4 H4 D' σ5 S5 f4,
          fun _ _ h => h, fun x H2 hy => ?_⟩
        obtain ⟨fr2, hs2, rx⟩ := g2 x H2 hy
        refine ⟨B, ρ1, S1, σ1, xs[i], σ3, S3, hs2, sl1.mono fr2 hs1, rx, ea, fun ρ3 σc3 H3 fr3 hs3 sl3 => ⟨B, ρ3, S3, σ3, f5, σ5, S5, hs3, sl3, eb, ?_⟩⟩
        have kk := (k1.step fr2).step fr3
        have fr' := (fr.trans fr2).trans fr3
        cases f5 with
        | nx => exact fun ρ6 σc6 H6 fr6 hs6 sl6 => ⟨m, Nat.lt_succ_self m, by omega, ρ6, σ5, S5, f1, σ2, S2, fr'.trans fr6, hs6, sl6, e1, kk.step fr6⟩
        | ct => exact fun ρ6 σc6 H6 fr6 hs6 sl6 => ⟨m, Nat.lt_succ_self m, by omega, ρ6, σ5, S5, f1, σ2, S2, fr'.trans fr6, hs6, sl6, e1, kk.step fr6⟩
        | bk =>
          cases e1
          exact fun ρ6 σc6 H6 fr6 hs6 sl6 => kk ρ6 σc6 H6 fr6 hs6 sl6
        | rt d =>
          cases e1
          exact fun ρ6 vc H6 fr6 hs6 r6 => kk ρ6 vc H6 fr6 hs6 r6
theorem forV_ok {D' : Ends} {J : It} {n : Nat} {B ρ : List Addr} {S : Sto} {H : Hp} {σ : Slots} {σc : L2.St} {r0 : Nat} {f : Fl} {σ' : Slots} {S' : Sto} {g : TG} {tb : TS} (hg : g = RdG G mg) (hb : tb = RdS G ms) (hs : Hs G B ρ S H) (sl : Sl G B ρ H σ σc) (rj : RJ G B ρ H J (.live n))
    (e : forV mg ms n r0 0 σ S = some (f, σ', S')) (k : EndOk G B ρ H D' σ' S' f) :
    ∃ W : Nat → Nat → L2.St → Hp → Prop, (∃ m, W 0 m σc H) ∧ ∀ i m σ H, W i m σ H →
      (J.stop i H ∧ D'.nx σ H) ∨ (J.go i H ∧ ∃ N : L2.St → Hp → Prop, (∀ σ' H', N σ' H' → ∃ m', m' < m ∧ W (i + 1) m' σ' H') ∧ ∀ x H', J.yld i H x H' → g x σ H' fun σ2 H2 => tb { D' with nx := N, ct := N, bk := D'.nx } σ2 H2) := by
  subst hg
  subst hb
  refine ⟨fun i m σc1 H1 => ∃ ρ1 σ1 S1 f1 σ2 S2, Fr ρ H ρ1 H1 ∧ Hs G B ρ1 S1 H1 ∧ Sl G B ρ1 H1 σ1 σc1 ∧ forV mg ms n m i σ1 S1 = some (f1, σ2, S2) ∧ EndOk G B ρ1 H1 D' σ2 S2 f1, ⟨r0, ρ, σ, S, f, σ', S', Fr.refl, hs, sl, e, k⟩, ?_⟩
  rintro i m σc1 H1 ⟨ρ1, σ1, S1, f1, σ2, S2, fr, hs1, sl1, e1, k1⟩
  cases m with
  | zero =>
    unfold forV at e1
    cases hx : liveAt n S1 with
    | none => rw [hx] at e1; cases e1
    | some xs =>
      rw [hx] at e1
      obtain ⟨go, stop⟩ := rj B ρ1 S1 H1 (fun b h => .inl h) fr.w hs1 xs hx i
      by_cases hl : xs.length ≤ i
      · simp only [if_pos hl] at e1
        cases e1
        exact .inl ⟨stop hl, k1 ρ1 σc1 H1 Fr.refl hs1 sl1⟩
      · simp only [if_neg hl] at e1
        cases e1
  | succ m =>
    unfold forV at e1
    cases hx : liveAt n S1 with
    | none => rw [hx] at e1; cases e1
    | some xs =>
      rw [hx] at e1
      obtain ⟨go, stop⟩ := rj B ρ1 S1 H1 (fun b h => .inl h) fr.w hs1 xs hx i
      cases hd : xs[i]? with
      | none => simp only [hd] at e1; cases e1
      | some d =>
        simp only [hd] at e1
        obtain ⟨g1, g2⟩ := go d hd
        cases ea : mg d σ1 S1 with
        | none => simp only [ea] at e1; cases e1
        | some p =>
          obtain ⟨σ3, S3⟩ := p
          simp only [ea] at e1
          cases eb : ms σ3 S3 with
          | none => simp only [eb] at e1; cases e1
          | some p =>
            obtain ⟨f5, σ5, S5⟩ := p
            simp only [eb] at e1
            refine .inr ⟨g1, fun σc4 H4 => ∃ m', m' < m + 1 ∧ ∃ ρ4 σ4 S4 f4 σ5 S5, Fr ρ H ρ4 H4 ∧ Hs G B ρ4 S4 H4 ∧ Sl G B ρ4 H4 σ4 σc4 ∧ forV mg ms n m' (i + 1) σ4 S4 = some (f4, σ5, S5) ∧ EndOk G B ρ4 H4 D' σ5 S5 f4,
              fun _ _ h => h, fun x H2 hy => ?_⟩
            obtain ⟨fr2, hs2, rx⟩ := g2 x H2 hy
            refine ⟨B, ρ1, S1, σ1, d, σ3, S3, hs2, sl1.mono fr2 hs1, rx, ea, fun ρ3 σc3 H3 fr3 hs3 sl3 => ⟨B, ρ3, S3, σ3, f5, σ5, S5, hs3, sl3, eb, ?_⟩⟩
            have kk := (k1.step fr2).step fr3
            have fr' := (fr.trans fr2).trans fr3
            cases f5 with
            | nx => exact fun ρ6 σc6 H6 fr6 hs6 sl6 => ⟨m, Nat.lt_succ_self m, ρ6, σ5, S5, f1, σ2, S2, fr'.trans fr6, hs6, sl6, e1, kk.step fr6⟩
            | ct => exact fun ρ6 σc6 H6 fr6 hs6 sl6 => ⟨m, Nat.lt_succ_self m, ρ6, σ5, S5, f1, σ2, S2, fr'.trans fr6, hs6, sl6, e1, kk.step fr6⟩
            | bk =>
              cases e1
              exact fun ρ6 σc6 H6 fr6 hs6 sl6 => kk ρ6 σc6 H6 fr6 hs6 sl6
            | rt d =>
              cases e1
              exact fun ρ6 vc H6 fr6 hs6 r6 => kk ρ6 vc H6 fr6 hs6 r6
theorem s_for (hp : PassesOwn (model X.prog X.w) X.A X.env X.xe) (hc : X.calm = true) (hi : PI X tg iter (RdI G mi)) (hg : PG X tg (RdG G mg)) (hb : PSs X sts (RdS G ms)) (hs : ∀ x, foldedSetIterable iter X.env x = pure x := by intro _; rfl) : PS X (.For tg iter sts [] pos) (RdS G (sFor mi mg ms)) :=
  PS_imp (ps_for hp hc hi hg hb hs) fun D σc H ⟨B, ρ, S, σ, fl, σ', S', hs, sl, e, k⟩ => by
    unfold sFor at e
    cases ea : mi σ S with
    | none => rw [ea] at e; cases e
    | some p =>
      obtain ⟨src, S1⟩ := p
      refine ⟨B, ρ, S, σ, src, S1, hs, sl, ea, fun ρ1 H1 J fr hs1 rj => ?_⟩
      rw [ea] at e
      cases src with
      | items xs => exact forL_ok rfl rfl hs1 (sl.mono fr hs) rj e (k.step fr)
      | live n =>
        simp only at e
        cases hx : liveAt n S1 with
        | none => rw [hx] at e; cases e
        | some xs =>
          rw [hx] at e
          exact forV_ok rfl rfl hs1 (sl.mono fr hs) rj e (k.step fr)
end
end Rf
end

section
set_option Elab.async false
set_option linter.all false
set_option maxRecDepth 100000
set_option maxHeartbeats 4000000
/-! Rf5: what is walked; comprehensions. -/
namespace Rf
open PySem L2

/-! ### sources -/
def srcOf : D → Option Src
  | .p (.tup xs) => some (.items (xs.map .p))
  | .p (.lst xs) => some (.items (xs.map .p))
  | .mix xs => some (.items xs)
  | .mxl xs => some (.items xs)
  | .loc n => some (.live n)
  | .p (.scr ns) => some (.items (ns.map fun i => .p (.int i)))
  | .p (.str x) => some (.items (x.cps.toList.map fun c => .p (.str ⟨#[c]⟩)))
  | _ => none
def iSeq (a : ME) : MI := fun σ S => match a σ S with
  | none => none
  | some (d, S1) => match srcOf d with
    | some (.live n) => (match liveAt n S1 with
      | some _ => some (.live n, S1)
      | none => none)
    | some s => some (s, S1)
    | none => none
def rngD (lo : Int) (n : Nat) : List D := (List.range n).map fun (i : Nat) => D.p (.int (lo + (i : Int)))
def iRange1 (a : MA) : MI := fun σ S => match a σ S with
  | some ([.p (.int j)], S1) => if -100000 ≤ j ∧ j ≤ 100000 then some (.items (rngD 0 j.toNat), S1) else none
  | _ => none
def iRange2 (a : MA) : MI := fun σ S => match a σ S with
  | some ([.p (.int i), .p (.int j)], S1) => if (-100000 ≤ i ∧ i ≤ 100000) ∧ -100000 ≤ j ∧ j ≤ 100000 then some (.items (rngD i (j - i).toNat), S1) else none
  | _ => none
section
variable {X : Cx} {G : Gx} {tg : Expr} {ma : ME} {mr : MA}
/-- a list, a tuple, a text, whichever it is -/
def iAny (K : PySem.W.Frag) (tl : TE) : TI := fun σ H R => tl σ H fun x H1 => (∃ a, x = .ref a ∧ (∃ xs, SqL K H1 a xs) ∧ R (Itl K a) H1) ∨ (∃ a, x = .ref a ∧ (∃ xs, SqT K H1 a xs) ∧ R (Itt K a) H1) ∨ ∃ z, x = .str z ∧ R (Its z) H1
theorem pi_any {l : Expr} {tl : TE} (hl : PE X l tl) : PI X tg l (iAny X.K tl) := by
  refine ⟨fun pins s σ H R I h => ?_⟩
  have key : ∀ (x : V) (H1 : Hp), ((∃ a, x = .ref a ∧ (∃ xs, SqL X.K H1 a xs) ∧ R (Itl X.K a) H1) ∨ (∃ a, x = .ref a ∧ (∃ xs, SqT X.K H1 a xs) ∧ R (Itt X.K a) H1) ∨ ∃ z, x = .str z ∧ R (Its z) H1) →
      ∀ (v : Value) (s1 : Shared), Inv X pins σ H1 s1 → RelV x v → wpAny (model X.prog X.w) X.A (pyIter v) (PIE X pins σ tg R) X.xe s1 := by
    rintro x H1 (⟨a, e, ⟨xs, hq⟩, q⟩ | ⟨a, e, ⟨xs, hq⟩, q⟩ | ⟨z, e, q⟩) v s1 I1 r1
    · subst e
      cases r1
      obtain ⟨its, rv, p, hz⟩ := I1.list hq
      refine wpAny_pyIter_list p.isList ?_
      refine ⟨s1.heap.objs.size, [s1.heap.objs.size], _, _, H1, rfl, I1.kept (t' := s1.toks) fun b o e => Heap.get?_push_of_some _ e, turn_list a _, ⟨_, Heap.get?_push_size _ rfl, rfl, rfl⟩, fun b hb => ?_, q⟩
      have e : b = s1.heap.objs.size := by simpa using hb
      subst e
      exact I1.fpOk (Nat.le_refl _) (I1.hok.fresh (Nat.le_refl _))
    · subst e
      cases r1
      obtain ⟨its, rv, p, hz⟩ := I1.tuple hq
      refine wpAny_pyIter_tuple (show s1.heap.IsTuple a its.toArray from p) ?_
      refine ⟨s1.heap.objs.size, [s1.heap.objs.size], _, _, H1, rfl, I1.kept (t' := s1.toks) fun b o e => Heap.get?_push_of_some _ e, turn_tuple a _, ⟨_, Heap.get?_push_size _ rfl, rfl, rfl⟩, fun b hb => ?_, q⟩
      have e : b = s1.heap.objs.size := by simpa using hb
      subst e
      exact I1.fpOk (Nat.le_refl _) (I1.hok.fresh (Nat.le_refl _))
    · subst e
      obtain ⟨t, rfl⟩ := r1
      cases ha : z.cps.all (· < 128)
      · exact wpAny_pyIter_wide ha (pi_one (tk := s1.toks) I1 _ (turn_str _ z t "str_iterator" (.inr rfl)) ⟨_, Heap.get?_push_size _ rfl, rfl, rfl⟩ q)
      · exact wpAny_pyIter_ascii ha (pi_one (tk := s1.toks) I1 _ (turn_str _ z t "str_ascii_iterator" (.inl rfl)) ⟨_, Heap.get?_push_size _ rfl, rfl, rfl⟩ q)
  exact thn (hl.run pins s σ H _ I h) fun v s1 ⟨x, H1, I1, r1, q1⟩ => key x H1 q1 v s1 I1 r1
section
variable {K : PySem.W.Frag} {B ρ : List Addr} {S : Sto} {H : Hp} {a : Addr} {xs : List D} {vs : List V}
theorem RJ_L (h : ∀ B' ρ' S' H', (∀ b ∈ B', b ∈ B ∨ H b = none) → Fw B ρ H ρ' H' → Hs G B' ρ' S' H' → SqL K H' a vs ∧ RVs G B' ρ' H' xs vs) : RJ G B ρ H (Itl K a) (.items xs) := by
  intro B' ρ' S' H' hb fr hs i
  obtain ⟨h1, h3⟩ := h B' ρ' S' H' hb fr hs
  refine ⟨fun d hd => ?_, fun hl => ⟨vs, h1, by rw [← h3.length]; exact hl⟩⟩
  obtain ⟨y, hy, r⟩ := h3.get hd
  refine ⟨⟨vs, y, h1, hy⟩, fun x H'' hyl => ?_⟩
  obtain ⟨e, hx⟩ := hyl
  subst e
  have e1 := hx vs h1
  rw [hy] at e1
  cases e1
  exact ⟨Fr.refl, hs, r⟩
theorem RJ_T (h : ∀ B' ρ' S' H', (∀ b ∈ B', b ∈ B ∨ H b = none) → Fw B ρ H ρ' H' → Hs G B' ρ' S' H' → SqT K H' a vs ∧ RVs G B' ρ' H' xs vs) : RJ G B ρ H (Itt K a) (.items xs) := by
  intro B' ρ' S' H' hb fr hs i
  obtain ⟨h1, h3⟩ := h B' ρ' S' H' hb fr hs
  refine ⟨fun d hd => ?_, fun hl => ⟨vs, h1, by rw [← h3.length]; exact hl⟩⟩
  obtain ⟨y, hy, r⟩ := h3.get hd
  refine ⟨⟨vs, y, h1, hy⟩, fun x H'' hyl => ?_⟩
  obtain ⟨e, hx⟩ := hyl
  subst e
  have e1 := hx vs h1
  rw [hy] at e1
  cases e1
  exact ⟨Fr.refl, hs, r⟩
theorem RJ_live {n : Nat} (ha : ρ[n]? = some a) : RJ G B ρ H (Itl K a) (.live n) := by
  intro B' ρ' S' H' hb fr hs xs hx i
  unfold liveAt at hx
  split at hx
  · rename_i ys hy
    cases hx
    obtain ⟨vs, e, r⟩ := hs.obj n a _ (pre_get fr.pre ha) hy
    refine ⟨fun d hd => ?_, fun hl => ⟨vs, SqL.of e, by rw [← r.length]; exact hl⟩⟩
    obtain ⟨y, hy, r⟩ := r.get hd
    refine ⟨⟨vs, y, SqL.of e, hy⟩, fun x H'' hyl => ?_⟩
    obtain ⟨e', hx⟩ := hyl
    subst e'
    have e1 := hx vs (SqL.of e)
    rw [hy] at e1
    cases e1
    exact ⟨Fr.refl, hs, r⟩
  · cases hx
theorem RJ_rng {lo : Int} {n : Nat} : RJ G B ρ H (Itr lo n) (.items (rngD lo n)) := by
  intro B' ρ' S' H' hb fr hs i
  refine ⟨fun d hd => ?_, fun hl => ?_⟩
  · unfold rngD at hd
    rw [List.getElem?_map] at hd
    by_cases hi : i < n
    · rw [List.getElem?_range hi] at hd
      cases hd
      refine ⟨hi, fun x H'' hy => ?_⟩
      obtain ⟨e, rfl⟩ := hy
      subst e
      exact ⟨Fr.refl, hs, .p (.int _)⟩
    · rw [List.getElem?_eq_none (by simp; omega)] at hd
      cases hd
  · unfold rngD at hl
    rw [List.length_map, List.length_range] at hl
    exact hl
theorem RJ_str {z : Str} : RJ G B ρ H (Its z) (.items (z.cps.toList.map fun c => .p (.str ⟨#[c]⟩))) := by
  intro B' ρ' S' H' hb fr hs i
  refine ⟨fun d hd => ?_, fun hl => ?_⟩
  · rw [List.getElem?_map, Array.getElem?_toList] at hd
    by_cases hi : i < z.cps.size
    · rw [Array.getElem?_eq_getElem hi] at hd
      cases hd
      refine ⟨hi, fun x H'' hy => ?_⟩
      obtain ⟨e, c, hc, rfl⟩ := hy
      subst e
      rw [Array.getElem?_eq_getElem hi] at hc
      cases hc
      exact ⟨Fr.refl, hs, .p (.str _)⟩
    · rw [Array.getElem?_eq_none (by omega)] at hd
      cases hd
  · show z.cps.size ≤ i
    simpa using hl
end
theorem scr_items {B ρ : List Addr} {H : Hp} : ∀ {ns : List Int}, RVs G B ρ H (ns.map fun i => D.p (.int i)) (ns.map V.int)
  | [] => .nil
  | i :: r => .cons (.p (.int i)) scr_items
theorem i_seq {l : Expr} (hK : X.K = G.K) (hl : PE X l (RdE G ma)) : PI X tg l (RdI G (iSeq ma)) :=
  PI_imp (pi_any hl) fun σc H R ⟨B, ρ, S, σ, src, S', hs, sl, e, k⟩ => by
    unfold iSeq at e
    cases ea : ma σ S with
    | none => rw [ea] at e; cases e
    | some p =>
      obtain ⟨d, S1⟩ := p
      simp only [ea] at e
      rw [hK]
      refine ⟨B, ρ, S, σ, d, S1, hs, sl, ea, fun ρ1 xc H1 fr hs1 rx => ?_⟩
      cases rx with
      | p r =>
        cases r with
        | tup s t =>
          cases e
          exact .inr (.inl ⟨_, rfl, ⟨_, s.sqt⟩, k ρ1 H1 _ fr hs1 (RJ_T fun B' ρ' S' H' hb fr' hs' => ⟨(fr'.tp hs1 s).sqt, (t.mono2 hb fr' hs1).toD⟩)⟩)
        | lst s n1 n2 t =>
          cases e
          exact .inl ⟨_, rfl, ⟨_, SqL.of s⟩, k ρ1 H1 _ fr hs1 (RJ_L fun B' ρ' S' H' hb fr' hs' => ⟨SqL.of (fr'.keep _ _ s n2 n1), (t.mono2 hb fr' hs1).toD⟩)⟩
        | scr s =>
          cases e
          exact .inl ⟨_, rfl, ⟨_, s.sql⟩, k ρ1 H1 _ fr hs1 (RJ_L fun B' ρ' S' H' hb fr' hs' => ⟨(fr'.sc hs1 s).sql, scr_items⟩)⟩
        | str z =>
          cases e
          exact .inr (.inr ⟨_, rfl, k ρ1 H1 _ fr hs1 RJ_str⟩)
        | _ => cases e
      | loc ha =>
        simp only [srcOf] at e
        split at e
        · rename_i xs hx
          cases e
          obtain ⟨vs, hv⟩ : ∃ vs, SqL G.K H1 _ vs := by
            unfold liveAt at hx
            split at hx
            · rename_i ys hy
              obtain ⟨vs, e1, _⟩ := hs1.obj _ _ _ ha hy
              exact ⟨vs, SqL.of e1⟩
            · cases hx
          exact .inl ⟨_, rfl, ⟨_, hv⟩, k ρ1 H1 _ fr hs1 (RJ_live ha)⟩
        · cases e
      | mix s t =>
        cases e
        exact .inr (.inl ⟨_, rfl, ⟨_, s.sqt⟩, k ρ1 H1 _ fr hs1 (RJ_T fun B' ρ' S' H' hb fr' hs' => ⟨(fr'.tt s).sqt, t.mono2 hb fr' hs1⟩)⟩)
      | mxl s n1 n2 t =>
        cases e
        exact .inl ⟨_, rfl, ⟨_, SqL.of s⟩, k ρ1 H1 _ fr hs1 (RJ_L fun B' ρ' S' H' hb fr' hs' => ⟨SqL.of (fr'.keep _ _ s n2 n1), t.mono2 hb fr' hs1⟩)⟩
theorem rvs1 {B ρ : List Addr} {H : Hp} {x : D} {vs : List V} (r : RVs G B ρ H [x] vs) : ∃ v, vs = [v] ∧ RV G B ρ H x v := by
  cases r with
  | cons a b => cases b; exact ⟨_, rfl, a⟩
theorem rvs2 {B ρ : List Addr} {H : Hp} {x y : D} {vs : List V} (r : RVs G B ρ H [x, y] vs) : ∃ v u, vs = [v, u] ∧ RV G B ρ H x v ∧ RV G B ρ H y u := by
  cases r with
  | cons a b =>
    obtain ⟨u, rfl, c⟩ := rvs1 b
    exact ⟨_, u, rfl, a, c⟩
theorem rv_int {B ρ : List Addr} {H : Hp} {i : Int} {v : V} (r : RV G B ρ H (.p (.int i)) v) : v = .int i := by
  cases r with
  | p r => cases r; rfl
theorem rv_str {B ρ : List Addr} {H : Hp} {i : Str} {v : V} (r : RV G B ρ H (.p (.str i)) v) : v = .str i := by
  cases r with
  | p r => cases r; rfl
theorem rv_non {B ρ : List Addr} {H : Hp} {v : V} (r : RV G B ρ H (.p .non) v) : v = .non := by
  cases r with
  | p r => cases r; rfl
theorem i_range1 {a : Expr} {p pos : Pos} (hg : Gl X "range") (hm : X.mg "range" = none) (ha : PA X [a] (RdA G mr)) (hs : starEach [a] X.env = [(false, eval a X.env)] := by rfl) : PI X tg (.Call (.Name "range" p) [a] [] pos) (RdI G (iRange1 mr)) :=
  PI_imp (pi_range1 hg hm ha hs) fun σc H R ⟨B, ρ, S, σ, src, S', hs, sl, e, k⟩ => by
    unfold iRange1 at e
    split at e
    · rename_i j S1 ea
      split at e
      · rename_i hb
        cases e
        exact ⟨B, ρ, S, σ, _, _, hs, sl, ea, fun ρ1 vs H1 fr hs1 rx => by
          obtain ⟨v, rfl, r⟩ := rvs1 rx
          exact ⟨j, by rw [rv_int r], by omega, by omega, k ρ1 H1 _ fr hs1 RJ_rng⟩⟩
      · cases e
    · cases e
theorem i_range2 {a b : Expr} {p pos : Pos} (hg : Gl X "range") (hm : X.mg "range" = none) (ha : PA X [a, b] (RdA G mr)) (hs : starEach [a, b] X.env = [(false, eval a X.env), (false, eval b X.env)] := by rfl) (hs2 : starEach [b] X.env = [(false, eval b X.env)] := by rfl) :
    PI X tg (.Call (.Name "range" p) [a, b] [] pos) (RdI G (iRange2 mr)) :=
  PI_imp (pi_range2 hg hm ha hs hs2) fun σc H R ⟨B, ρ, S, σ, src, S', hs, sl, e, k⟩ => by
    unfold iRange2 at e
    split at e
    · rename_i i j S1 ea
      split at e
      · rename_i hb
        cases e
        exact ⟨B, ρ, S, σ, _, _, hs, sl, ea, fun ρ1 vs H1 fr hs1 rx => by
          obtain ⟨v, u, rfl, r, q⟩ := rvs2 rx
          exact ⟨i, j, by rw [rv_int r, rv_int q], by omega, k ρ1 H1 _ fr hs1 RJ_rng⟩⟩
      · cases e
    · cases e
end

/-! ### targets that are names, tuples of names -/
inductive Tg where
  | nm (i : Nat) | tp (ts : List Tg)
mutual
def Tg.mg : Tg → D → Slots → Option Slots
  | .nm i, d, σ => some (σ.set i (some d))
  | .tp ts, d, σ => match asTup d with
    | none => none
    | some ds => Tg.mgs ts ds σ
def Tg.mgs : List Tg → List D → Slots → Option Slots
  | [], [], σ => some σ
  | t :: ts, d :: ds, σ => (match t.mg d σ with
    | none => none
    | some σ1 => Tg.mgs ts ds σ1)
  | _, _, _ => none
end
mutual
def Tg.tg (K : PySem.W.Frag) : Tg → TG
  | .nm i => gName i
  | .tp ts => gTup K ts.length (Tg.tgs K ts)
def Tg.tgs (K : PySem.W.Frag) : List Tg → TGs
  | [] => gNil
  | t :: ts => gCons (t.tg K) (Tg.tgs K ts)
end
mutual
def Tg.within (vs : List Nat) : Tg → Bool
  | .nm i => vs.contains i
  | .tp ts => Tg.withins vs ts
def Tg.withins (vs : List Nat) : List Tg → Bool
  | [] => true
  | t :: ts => t.within vs && Tg.withins vs ts
end
theorem wipe_at (σ : L2.St) : ∀ (vs : List Nat) (j : Nat), (wipe σ vs)[j]? = if j ∈ vs ∧ j < σ.length then some none else σ[j]?
  | [], j => by simp [wipe]
  | v :: vs, j => by
    unfold wipe
    by_cases hj : v = j
    · subst hj
      by_cases hl : v < σ.length
      · rw [List.getElem?_set_self (by rw [wipe_length]; exact hl), if_pos ⟨List.mem_cons_self, hl⟩]
      · rw [List.getElem?_eq_none (by rw [List.length_set, wipe_length]; omega), if_neg (fun h => hl h.2), List.getElem?_eq_none (by omega)]
    · rw [List.getElem?_set_ne hj, wipe_at σ vs j]
      have hm : (j ∈ v :: vs) ↔ j ∈ vs := by simp [Ne.symm hj]
      by_cases h : j ∈ vs ∧ j < σ.length
      · rw [if_pos h, if_pos ⟨hm.mpr h.1, h.2⟩]
      · rw [if_neg h, if_neg (fun q => h ⟨hm.mp q.1, q.2⟩)]
theorem wipe_set {σ : L2.St} {vs : List Nat} {i : Nat} {x : Option V} (h : i ∈ vs) : wipe (σ.set i x) vs = wipe σ vs := by
  apply List.ext_getElem?
  intro j
  rw [wipe_at, wipe_at, List.length_set]
  by_cases hj : j ∈ vs ∧ j < σ.length
  · rw [if_pos hj, if_pos hj]
  · rw [if_neg hj, if_neg hj]
    by_cases e : i = j
    · subst e
      have hl : ¬ i < σ.length := fun z => hj ⟨h, z⟩
      rw [List.getElem?_eq_none (by rw [List.length_set]; omega), List.getElem?_eq_none (by omega)]
    · rw [List.getElem?_set_ne e]
section
variable {G : Gx} {B ρ : List Addr} {S : Sto} {H : Hp}
mutual
theorem Tg.ok (vs : List Nat) : ∀ (t : Tg) {d : D} {v : V} {σ σ' : Slots} {σc : L2.St} {Q : L2.St → Hp → Prop}, Sl G B ρ H σ σc → RV G B ρ H d v → t.mg d σ = some σ' → t.within vs = true →
    (∀ σc', Sl G B ρ H σ' σc' → wipe σc' vs = wipe σc vs → Q σc' H) → t.tg G.K v σc H Q
  | .nm i, d, v, σ, σ', σc, Q, sl, r, e, hw, k => by
    cases e
    exact k _ (sl.set i r) (wipe_set (by simpa [Tg.within] using hw))
  | .tp ts, d, v, σ, σ', σc, Q, sl, r, e, hw, k => by
    unfold Tg.mg at e
    split at e
    · cases e
    · rename_i ds hd
      obtain ⟨a, us, rfl, sq, rs⟩ := asTup_ok hd r
      have hl : ts.length = ds.length := Tg.len ts ds e
      exact ⟨a, us, rfl, sq, by rw [← rs.length, hl], Tg.oks vs ts sl rs e hw k⟩
theorem Tg.oks (vs : List Nat) : ∀ (ts : List Tg) {ds : List D} {us : List V} {σ σ' : Slots} {σc : L2.St} {Q : L2.St → Hp → Prop}, Sl G B ρ H σ σc → RVs G B ρ H ds us → Tg.mgs ts ds σ = some σ' → Tg.withins vs ts = true →
    (∀ σc', Sl G B ρ H σ' σc' → wipe σc' vs = wipe σc vs → Q σc' H) → Tg.tgs G.K ts us σc H Q
  | [], _, _, σ, σ', σc, Q, sl, .nil, e, hw, k => by
    cases e
    exact ⟨rfl, k σc sl rfl⟩
  | [], _, _, σ, σ', σc, Q, sl, .cons _ _, e, hw, k => by cases e
  | t :: ts, _, _, σ, σ', σc, Q, sl, .nil, e, hw, k => by cases e
  | t :: ts, _, _, σ, σ', σc, Q, sl, .cons (d := d) (ds := ds) (v := v) (vs := us) r rs, e, hw, k => by
    unfold Tg.mgs at e
    simp only [Tg.withins, Bool.and_eq_true] at hw
    split at e
    · cases e
    · rename_i σ1 h1
      exact ⟨v, us, rfl, Tg.ok vs t sl r h1 hw.1 fun σc1 sl1 w1 => Tg.oks vs ts sl1 rs e hw.2 fun σc2 sl2 w2 => k σc2 sl2 (w2.trans w1)⟩
theorem Tg.len : ∀ (ts : List Tg) (ds : List D) {σ σ' : Slots}, Tg.mgs ts ds σ = some σ' → ts.length = ds.length
  | [], [], _, _, _ => rfl
  | [], _ :: _, _, _, e => by cases e
  | _ :: _, [], _, _, e => by cases e
  | t :: ts, d :: ds, σ, σ', e => by
    unfold Tg.mgs at e
    split at e
    · cases e
    · exact congrArg (· + 1) (Tg.len ts ds e)
end
end
end Rf
end

section
set_option Elab.async false
set_option linter.all false
set_option maxRecDepth 100000
set_option maxHeartbeats 4000000
/-! Rf6: comprehensions. -/
namespace Rf
open PySem L2

def wipeD (σ : Slots) : List Nat → Slots
  | [] => σ
  | v :: vs => (wipeD σ vs).set v none
abbrev MTn := D → Sto → Option (List D × Sto)
def lcT (T : MTn) : List D → Sto → Option (List D × Sto)
  | [], S => some ([], S)
  | x :: r, S => match T x S with
    | none => none
    | some (ys, S1) => match lcT T r S1 with
      | none => none
      | some (zs, S2) => some (ys ++ zs, S2)
def lcTV (T : MTn) (n : Nat) : Nat → Nat → Sto → Option (List D × Sto)
  | 0, i, S => (match liveAt n S with
    | some xs => if xs.length ≤ i then some ([], S) else none
    | none => none)
  | r + 1, i, S => match liveAt n S with
    | none => none
    | some xs => match xs[i]? with
      | none => none
      | some x => match T x S with
        | none => none
        | some (ys, S1) => match lcTV T n r (i + 1) S1 with
          | none => none
          | some (zs, S2) => some (ys ++ zs, S2)
def srcGo (T : MTn) (src : Src) (S : Sto) : Option (List D × Sto) := match src with
  | .items xs => lcT T xs S
  | .live n => match liveAt n S with
    | none => none
    | some xs => lcTV T n xs.length 0 S
/-- one clause's turn; a turn with a second clause -/
def tn1 (t : Tg) (tt : MT) (te : ME) (σ0 : Slots) : MTn := fun x S => match t.mg x σ0 with
  | none => none
  | some σ1 => match tt σ1 S with
    | none => none
    | some (false, S1) => some ([], S1)
    | some (true, S1) => match te σ1 S1 with
      | none => none
      | some (y, S2) => some ([y], S2)
def tn2 (t : Tg) (tt : MT) (mi1 : MI) (t1 : Tg) (tt1 : MT) (te : ME) (vs1 : List Nat) (σ0 : Slots) : MTn := fun x S => match t.mg x σ0 with
  | none => none
  | some σ1 => match tt σ1 S with
    | none => none
    | some (false, S1) => some ([], S1)
    | some (true, S1) => match mi1 σ1 S1 with
      | none => none
      | some (src, S2) => srcGo (tn1 t1 tt1 te (wipeD σ1 vs1)) src S2
def lcI (mi : MI) (T : Slots → MTn) (vs : List Nat) (σ : Slots) (S : Sto) : Option (List D × Sto) := match mi σ S with
  | none => none
  | some (src, S1) => match srcGo (T (wipeD σ vs)) src S1 with
    | none => none
    | some (ys, S2) => if ys.length ≤ 100000 then some (ys, S2) else none
def mLc (mi : MI) (T : Slots → MTn) (vs : List Nat) : ME := fun σ S => match lcI mi T vs σ S with
  | none => none
  | some (ys, S1) => some (lstOf ys, S1)
def mLcN (mi : MI) (T : Slots → MTn) (vs : List Nat) : ME := fun σ S => match lcI mi T vs σ S with
  | none => none
  | some (ys, S1) => some (.loc S1.length, S1 ++ [.lst ys])
def tYes' : MT := fun _ S => some (true, S)

section
variable {G : Gx} {B ρ ρ1 ρ' : List Addr} {S S1 S2 S' : Sto} {H H1 H' : Hp} {σ : Slots} {σc : L2.St} {Dl : Addr} {u : HO} {acc acc' : List V}
theorem wipe_two {σ : L2.St} {vs : List Nat} : wipe (wipe σ vs) vs = wipe σ vs := by
  apply List.ext_getElem?
  intro j
  rw [wipe_at, wipe_at, wipe_length]
  by_cases h : j ∈ vs ∧ j < σ.length
  · rw [if_pos h, if_pos h]
  · rw [if_neg h, if_neg h]
theorem Sl.wipe (sl : Sl G B ρ H σ σc) : ∀ vs : List Nat, Sl G B ρ H (wipeD σ vs) (L2.wipe σc vs)
  | [] => sl
  | v :: vs => (Sl.wipe sl vs).unset v
theorem Fr.wo (f : Fr ρ H ρ' H') {B : List Addr} : Fw B ρ H ρ' H' := ⟨f.pre, fun a o e n _ => f.keep a o e n, f.new, f.fz⟩
theorem Fw.atD (hf : NoFz H Dl) : Fw [Dl] ρ H ρ (upd H Dl u) := ⟨List.prefix_refl _, fun a o e _ n => by
  rw [upd_ne (by simpa using n)]
  exact e, fun a h n => absurd h n, fun b o u e => by
  rw [upd_ne (fun z => hf o u (by rw [← z]; exact e))]
  exact e⟩
theorem Fw.big (f : Fw [Dl] ρ H ρ' H') : Fw (Dl :: B) ρ H ρ' H' := ⟨f.pre, fun a o e n nb => f.keep a o e n (by
  simp only [List.mem_cons, not_or] at nb
  simpa using nb.1), f.new, f.fz⟩
theorem Fw.trans1 (a : Fw [Dl] ρ H ρ1 H1) (b : Fw [Dl] ρ1 H1 ρ' H') (hD : H1 Dl = some u) : Fw [Dl] ρ H ρ' H' := by
  refine ⟨a.pre.trans b.pre, fun x o h n nb => ?_, fun x hx n => ?_, fun x o u h => b.fz x o u (a.fz x o u h)⟩
  · refine b.keep x o (a.keep x o h n nb) (fun z => ?_) nb
    rw [a.new x z n] at h
    cases h
  · by_cases z : x ∈ ρ1
    · exact a.new x z n
    · have q := b.new x hx z
      cases e : H x with
      | none => rfl
      | some o =>
        by_cases nb : x ∈ [Dl]
        · rw [List.mem_singleton.mp nb, hD] at q
          cases q
        · rw [a.keep x o e n nb] at q
          cases q
theorem inb {B : List Addr} : ∀ b ∈ B, b ∈ B ∨ H b = none := fun _ h => .inl h
theorem Sl.monoW (f : Fw [Dl] ρ H ρ' H') (h : Hs G (Dl :: B) ρ S H) (s : Sl G (Dl :: B) ρ H σ σc) : Sl G (Dl :: B) ρ' H' σ σc := ⟨s.len, fun i d e => by
  obtain ⟨v, e1, r⟩ := s.at_ i d e
  exact ⟨v, e1, r.mono2 inb f.big h⟩⟩
theorem RK.mono2 {κ : Type} {B' : List Addr} (hb : ∀ b ∈ B', b ∈ B ∨ H b = none) (f : Fw B ρ H ρ' H') (h : Hs G B ρ S H) : ∀ {d : List (κ × D)} {v : List (κ × V)}, RK G B ρ H d v → RK G B' ρ' H' d v
  | _, _, .nil => .nil
  | _, _, .cons r q => .cons (RV.mono2 hb f h r) (RK.mono2 hb f h q)
theorem RO.mono2 {B' : List Addr} (hb : ∀ b ∈ B', b ∈ B ∨ H b = none) (f : Fw B ρ H ρ' H') (h : Hs G B ρ S H) {a : Addr} (e : H' a = H a) {o : AO} (r : RO G B ρ H a o) : RO G B' ρ' H' a o := by
  cases o with
  | lst xs => obtain ⟨vs, e1, q⟩ := r; exact ⟨vs, e.trans e1, q.mono2 hb f h⟩
  | dk xs => obtain ⟨vs, e1, q⟩ := r; exact ⟨vs, e.trans e1, q.mono2 hb f h⟩
  | dt xs => obtain ⟨vs, e1, q⟩ := r; exact ⟨vs, e.trans e1, q.mono2 hb f h⟩
  | fk xs => obtain ⟨o, vs, e1, q⟩ := r; exact ⟨o, vs, e.trans e1, q.mono2 hb f h⟩
  | ft xs => obtain ⟨o, vs, e1, q⟩ := r; exact ⟨o, vs, e.trans e1, q.mono2 hb f h⟩
  | ins c xs => obtain ⟨dx, vs, e1, q⟩ := r; exact ⟨dx, vs, e.trans e1, q.mono2 hb f h⟩
theorem nofz' {o : HO} (e : H Dl = some o) (n : ∀ a b, o ≠ .frz a b) : NoFz H Dl := fun a b h => by
  rw [e] at h
  cases h
  exact n _ _ rfl
theorem Hs.atD (h : Hs G (Dl :: B) ρ S H) (hf : NoFz H Dl) : Hs G (Dl :: B) ρ S (upd H Dl (.lst acc')) := by
  refine ⟨h.len, h.nd, fun a ha => ?_, h.dis, fun i a o e1 e2 => ?_, G.st h.inv fun b v e n => by
    rw [upd_ne (fun z => bar_not h e n (by rw [z]; exact List.mem_cons_self))]
    exact e⟩
  · by_cases e : a = Dl
    · exact ⟨.lst acc', by rw [e]; exact upd_same, (show Chg (.lst acc') from trivial)⟩
    · obtain ⟨o, q, c⟩ := h.bar a ha
      exact ⟨o, by rw [upd_ne e]; exact q, c⟩
  · have hne : a ≠ Dl := fun z => h.dis a (List.mem_of_getElem? e1) (by rw [z]; exact List.mem_cons_self)
    exact (h.obj i a o e1 e2).mono2 inb (Fw.atD hf).big h (upd_ne hne)
/-- a new barrier: the comprehension's list -/
theorem newbar (hn : H Dl = none) : ∀ b ∈ Dl :: B, b ∈ B ∨ H b = none := fun b hb => by
  rcases List.mem_cons.mp hb with e | e
  · exact .inr (by rw [e]; exact hn)
  · exact .inl e
theorem Hs.newbar (h : Hs G B ρ S H) (hn : H Dl = none) : Hs G (Dl :: B) ρ S (upd H Dl (.lst acc')) := by
  have hb := Rf.newbar (B := B) hn
  have f : Fr ρ H ρ (upd H Dl (.lst acc')) := Fr.laid hn
  refine ⟨h.len, h.nd, fun a ha => ?_, fun a ha z => ?_, fun i a o e1 e2 => ?_, G.st h.inv fun b v e _ => (upd_ne (ne_of_none e hn)).trans e⟩
  · rcases List.mem_cons.mp ha with e | e
    · exact ⟨.lst acc', by rw [e]; exact upd_same, (show Chg (.lst acc') from trivial)⟩
    · obtain ⟨o, q, c⟩ := h.bar a e
      exact ⟨o, f.keep a o q fun z => h.dis a z e, c⟩
  · obtain ⟨o, q, _⟩ := h.chg ha
    rcases List.mem_cons.mp z with e | e
    · rw [e, hn] at q
      cases q
    · exact h.dis a ha e
  · obtain ⟨w, q, _⟩ := h.chg (List.mem_of_getElem? e1)
    exact (h.obj i a o e1 e2).mono2 hb f.wo h (upd_ne (ne_of_none q hn))
theorem Sl.newbar (sl : Sl G B ρ H σ σc) (h : Hs G B ρ S H) (hn : H Dl = none) : Sl G (Dl :: B) ρ (upd H Dl u) σ σc := ⟨sl.len, fun i d e => by
  obtain ⟨v, e1, r⟩ := sl.at_ i d e
  exact ⟨v, e1, r.mono2 (Rf.newbar hn) (Fr.laid hn).wo h⟩⟩
theorem RJ.newbar {J : It} {src : Src} (r : RJ G B ρ H J src) (hn : H Dl = none) : RJ G (Dl :: B) ρ (upd H Dl u) J src := by
  have hw : ∀ {ρ' H'}, Fw (Dl :: B) ρ (upd H Dl u) ρ' H' → Fw B ρ H ρ' H' := fun {ρ' H'} f => ⟨f.pre, fun a o e n nb => f.keep a o (by rw [upd_ne (ne_of_none e hn)]; exact e) n (fun z => by
    rcases List.mem_cons.mp z with z | z
    · rw [z, hn] at e; cases e
    · exact nb z), fun a ha na => by
    have q := f.new a ha na
    by_cases e : a = Dl
    · rw [e]; exact hn
    · rw [upd_ne e] at q
      exact q, fun a o u e => f.fz a o u (by rw [upd_ne (ne_of_none e hn)]; exact e)⟩
  have hb : ∀ {B' : List Addr}, (∀ b ∈ B', b ∈ Dl :: B ∨ (upd H Dl u) b = none) → ∀ b ∈ B', b ∈ B ∨ H b = none := fun {B'} h b hb => by
    rcases h b hb with z | z
    · rcases List.mem_cons.mp z with z | z
      · exact .inr (by rw [z]; exact hn)
      · exact .inl z
    · by_cases e : b = Dl
      · exact .inr (by rw [e]; exact hn)
      · rw [upd_ne e] at z
        exact .inr z
  cases src with
  | items xs => exact fun B' ρ' S' H' h f hs => r B' ρ' S' H' (hb h) (hw f) hs
  | live n => exact fun B' ρ' S' H' h f hs => r B' ρ' S' H' (hb h) (hw f) hs
/-! the barrier falls -/
mutual
theorem RV.bar {B' ρ' : List Addr} (hb : ∀ p, p ∉ B → p ∉ ρ → p ∉ B' ∧ p ∉ ρ') (hp : ρ <+: ρ') : ∀ {d : D} {v : V}, RV G B ρ H d v → RV G B' ρ' H d v
  | _, _, .p r => .p (r.bar hb)
  | _, _, .loc e => .loc (pre_get hp e)
  | _, _, .mix s r => .mix s (RVs.bar hb hp r)
  | _, _, .mxl s b n r => .mxl s (hb _ b n).1 (hb _ b n).2 (RVs.bar hb hp r)
theorem RVs.bar {B' ρ' : List Addr} (hb : ∀ p, p ∉ B → p ∉ ρ → p ∉ B' ∧ p ∉ ρ') (hp : ρ <+: ρ') : ∀ {d : List D} {v : List V}, RVs G B ρ H d v → RVs G B' ρ' H d v
  | _, _, .nil => .nil
  | _, _, .cons r q => .cons (RV.bar hb hp r) (RVs.bar hb hp q)
end
theorem RK.bar {κ : Type} {B' ρ' : List Addr} (hb : ∀ p, p ∉ B → p ∉ ρ → p ∉ B' ∧ p ∉ ρ') (hp : ρ <+: ρ') : ∀ {d : List (κ × D)} {v : List (κ × V)}, RK G B ρ H d v → RK G B' ρ' H d v
  | _, _, .nil => .nil
  | _, _, .cons r q => .cons (RV.bar hb hp r) (RK.bar hb hp q)
theorem RO.bar {B' ρ' : List Addr} (hb : ∀ p, p ∉ B → p ∉ ρ → p ∉ B' ∧ p ∉ ρ') (hp : ρ <+: ρ') {a : Addr} {o : AO} (r : RO G B ρ H a o) : RO G B' ρ' H a o := by
  cases o with
  | lst xs => obtain ⟨vs, e, t⟩ := r; exact ⟨vs, e, t.bar hb hp⟩
  | dk xs => obtain ⟨vs, e, t⟩ := r; exact ⟨vs, e, t.bar hb hp⟩
  | dt xs => obtain ⟨vs, e, t⟩ := r; exact ⟨vs, e, t.bar hb hp⟩
  | fk xs => obtain ⟨o, vs, e, t⟩ := r; exact ⟨o, vs, e, t.bar hb hp⟩
  | ft xs => obtain ⟨o, vs, e, t⟩ := r; exact ⟨o, vs, e, t.bar hb hp⟩
  | ins c xs => obtain ⟨dx, vs, e, t⟩ := r; exact ⟨dx, vs, e, t.bar hb hp⟩
theorem Hs.unbar (h : Hs G (Dl :: B) ρ S H) : Hs G B ρ S H :=
  ⟨h.len, h.nd, fun a ha => h.bar a (List.mem_cons_of_mem _ ha), fun a ha z => h.dis a ha (List.mem_cons_of_mem _ z), fun i a o e1 e2 =>
    (h.obj i a o e1 e2).bar (fun p h1 h2 => ⟨fun z => h1 (List.mem_cons_of_mem _ z), h2⟩) (List.prefix_refl _), h.inv⟩
/-- the list is taken into the store -/
theorem Hs.adopt (h : Hs G (Dl :: B) ρ S H) (hB : Dl ∉ B) {ys : List D} {vs : List V} (hD : H Dl = some (.lst vs)) (r : RVs G (Dl :: B) ρ H ys vs) : Hs G B (ρ ++ [Dl]) (S ++ [.lst ys]) H := by
  have hb : ∀ p, p ∉ Dl :: B → p ∉ ρ → p ∉ B ∧ p ∉ ρ ++ [Dl] := fun p h1 h2 => ⟨fun z => h1 (List.mem_cons_of_mem _ z), fun z => by
    rcases List.mem_append.mp z with z | z
    · exact h2 z
    · exact h1 (by rw [List.mem_singleton.mp z]; exact List.mem_cons_self)⟩
  have nD : Dl ∉ ρ := fun z => h.dis Dl z List.mem_cons_self
  refine ⟨by rw [List.length_append, List.length_append, h.len]; rfl, ?_, fun a ha => h.bar a (List.mem_cons_of_mem _ ha), fun a ha z => ?_, fun i a o e1 e2 => ?_, h.inv⟩
  · rw [List.nodup_append]
    exact ⟨h.nd, by simp, fun a ha b hb => by
      rw [List.mem_singleton.mp hb]
      intro z
      rw [z] at ha
      exact nD ha⟩
  · rcases List.mem_append.mp ha with ha | ha
    · exact h.dis a ha (List.mem_cons_of_mem _ z)
    · rw [List.mem_singleton.mp ha] at z
      exact hB z
  · by_cases hi : i < ρ.length
    · rw [List.getElem?_append_left hi] at e1
      rw [List.getElem?_append_left (by rw [← h.len]; exact hi)] at e2
      exact (h.obj i a o e1 e2).bar hb (List.prefix_append _ _)
    · rw [List.getElem?_append_right (by omega)] at e1
      rw [List.getElem?_append_right (by rw [← h.len]; omega), ← h.len] at e2
      by_cases hj : i - ρ.length = 0
      · rw [hj] at e1 e2
        cases e1
        cases e2
        exact ⟨vs, hD, r.bar hb (List.prefix_append _ _)⟩
      · rw [List.getElem?_eq_none (by simp; omega)] at e1
        cases e1


/-- what a turn must do: the turn's reading from its data -/
def TurnOk (G : Gx) (B : List Addr) (Dl : Addr) (σ0 : Slots) (σ0c : L2.St) (T : MTn) (Tc : V → Hp → (Hp → Prop) → Prop) : Prop :=
  ∀ ρ S H x xc ys S1 accD acc Nx, Hs G (Dl :: B) ρ S H → Sl G (Dl :: B) ρ H σ0 σ0c → RV G (Dl :: B) ρ H x xc → T x S = some (ys, S1) → H Dl = some (.lst acc) → RVs G (Dl :: B) ρ H accD acc → (accD ++ ys).length ≤ 100000 →
    (∀ ρ' us H', Fw [Dl] ρ H ρ' H' → Hs G (Dl :: B) ρ' S1 H' → H' Dl = some (.lst us) → RVs G (Dl :: B) ρ' H' (accD ++ ys) us → Nx H') → Tc xc H Nx
/-- a loop of turns -/
def Loop (J : It) (Qd : Hp → Prop) (Tc : V → Hp → (Hp → Prop) → Prop) (H : Hp) : Prop := ∃ W : Nat → Nat → Hp → Prop, (∃ m, W 0 m H) ∧ ∀ i m H, W i m H →
  (J.stop i H ∧ Qd H) ∨ (J.go i H ∧ ∃ Nx : Hp → Prop, (∀ H', Nx H' → ∃ m', m' < m ∧ W (i + 1) m' H') ∧ ∀ x H', J.yld i H x H' → Tc x H' Nx)
theorem loop_items {T : MTn} {Tc : V → Hp → (Hp → Prop) → Prop} {σ0 : Slots} {σ0c : L2.St} {J : It} {xs ys accD : List D} {Qd : Hp → Prop} (tk : TurnOk G B Dl σ0 σ0c T Tc) (hs : Hs G (Dl :: B) ρ S H) (sl : Sl G (Dl :: B) ρ H σ0 σ0c) (rj : RJ G (Dl :: B) ρ H J (.items xs))
    (hD : H Dl = some (.lst acc)) (ra : RVs G (Dl :: B) ρ H accD acc) (e : lcT T xs S = some (ys, S')) (hz : (accD ++ ys).length ≤ 100000)
    (k : ∀ ρ' us H', Fw [Dl] ρ H ρ' H' → Hs G (Dl :: B) ρ' S' H' → H' Dl = some (.lst us) → RVs G (Dl :: B) ρ' H' (accD ++ ys) us → Qd H') : Loop J Qd Tc H := by
  refine ⟨fun i m H1 => i + m = xs.length ∧ ∃ ρ1 S1 accE ace rest, Fw [Dl] ρ H ρ1 H1 ∧ Hs G (Dl :: B) ρ1 S1 H1 ∧ Sl G (Dl :: B) ρ1 H1 σ0 σ0c ∧ H1 Dl = some (.lst ace) ∧ RVs G (Dl :: B) ρ1 H1 accE ace ∧ lcT T (xs.drop i) S1 = some (rest, S') ∧ accE ++ rest = accD ++ ys,
    ⟨xs.length, Nat.zero_add _, ρ, S, accD, acc, ys, Fr.refl.wo, hs, sl, hD, ra, e, rfl⟩, ?_⟩
  rintro i m H1 ⟨hm, ρ1, S1, accE, ace, rest, fr, hs1, sl1, hD1, ra1, e1, ey⟩
  obtain ⟨go, stop⟩ := rj (Dl :: B) ρ1 S1 H1 inb fr.big hs1 i
  cases m with
  | zero =>
    rw [List.drop_of_length_le (by omega)] at e1
    cases e1
    rw [List.append_nil] at ey
    subst ey
    exact .inl ⟨stop (by omega), k ρ1 ace H1 fr hs1 hD1 ra1⟩
  | succ m =>
    have hi : i < xs.length := by omega
    rw [List.drop_eq_getElem_cons hi] at e1
    obtain ⟨g1, g2⟩ := go xs[i] (List.getElem?_eq_getElem hi)
    refine .inr ⟨g1, fun H4 => ∃ m', m' < m + 1 ∧ i + 1 + m' = xs.length ∧ ∃ ρ1 S1 accE ace rest, Fw [Dl] ρ H ρ1 H4 ∧ Hs G (Dl :: B) ρ1 S1 H4 ∧ Sl G (Dl :: B) ρ1 H4 σ0 σ0c ∧ H4 Dl = some (.lst ace) ∧ RVs G (Dl :: B) ρ1 H4 accE ace ∧ lcT T (xs.drop (i + 1)) S1 = some (rest, S') ∧ accE ++ rest = accD ++ ys,
      fun _ h => h, fun x H2 hy => ?_⟩
    obtain ⟨fr2, hs2, rx⟩ := g2 x H2 hy
    have nD : Dl ∉ ρ1 := fun z => hs1.dis Dl z List.mem_cons_self
    have hD2 := fr2.keep _ _ hD1 nD
    unfold lcT at e1
    cases eT : T xs[i] S1 with
    | none => rw [eT] at e1; cases e1
    | some p =>
      obtain ⟨y1, S2⟩ := p
      simp only [eT] at e1
      cases er : lcT T (xs.drop (i + 1)) S2 with
      | none => rw [er] at e1; cases e1
      | some p =>
        obtain ⟨zs, S3⟩ := p
        rw [er] at e1
        cases e1
        refine tk ρ1 S1 H2 _ x y1 S2 accE ace _ hs2 (sl1.mono fr2 hs1) rx eT hD2 (ra1.mono fr2 hs1) (by
          rw [← ey] at hz
          simp only [List.length_append] at hz ⊢
          omega) fun ρ3 us H3 fr3 hs3 hD3 ra3 => ⟨m, Nat.lt_succ_self m, by omega, ρ3, S2, accE ++ y1, us, zs, (fr.trans1 fr2.wo hD1).trans1 fr3 hD2 , hs3, (sl1.mono fr2 hs1).monoW fr3 hs2, hD3, ra3, er, by rw [List.append_assoc]; exact ey⟩
theorem loop_live {T : MTn} {Tc : V → Hp → (Hp → Prop) → Prop} {σ0 : Slots} {σ0c : L2.St} {J : It} {n r0 : Nat} {ys accD : List D} {Qd : Hp → Prop} (tk : TurnOk G B Dl σ0 σ0c T Tc) (hs : Hs G (Dl :: B) ρ S H) (sl : Sl G (Dl :: B) ρ H σ0 σ0c) (rj : RJ G (Dl :: B) ρ H J (.live n))
    (hD : H Dl = some (.lst acc)) (ra : RVs G (Dl :: B) ρ H accD acc) (e : lcTV T n r0 0 S = some (ys, S')) (hz : (accD ++ ys).length ≤ 100000)
    (k : ∀ ρ' us H', Fw [Dl] ρ H ρ' H' → Hs G (Dl :: B) ρ' S' H' → H' Dl = some (.lst us) → RVs G (Dl :: B) ρ' H' (accD ++ ys) us → Qd H') : Loop J Qd Tc H := by
  refine ⟨fun i m H1 => ∃ ρ1 S1 accE ace rest, Fw [Dl] ρ H ρ1 H1 ∧ Hs G (Dl :: B) ρ1 S1 H1 ∧ Sl G (Dl :: B) ρ1 H1 σ0 σ0c ∧ H1 Dl = some (.lst ace) ∧ RVs G (Dl :: B) ρ1 H1 accE ace ∧ lcTV T n m i S1 = some (rest, S') ∧ accE ++ rest = accD ++ ys,
    ⟨r0, ρ, S, accD, acc, ys, Fr.refl.wo, hs, sl, hD, ra, e, rfl⟩, ?_⟩
  rintro i m H1 ⟨ρ1, S1, accE, ace, rest, fr, hs1, sl1, hD1, ra1, e1, ey⟩
  cases m with
  | zero =>
    unfold lcTV at e1
    cases hx : liveAt n S1 with
    | none => rw [hx] at e1; cases e1
    | some xs =>
      simp only [hx] at e1
      obtain ⟨go, stop⟩ := rj (Dl :: B) ρ1 S1 H1 inb fr.big hs1 xs hx i
      by_cases hl : xs.length ≤ i
      · rw [if_pos hl] at e1
        cases e1
        rw [List.append_nil] at ey
        subst ey
        exact .inl ⟨stop hl, k ρ1 ace H1 fr hs1 hD1 ra1⟩
      · rw [if_neg hl] at e1
        cases e1
  | succ m =>
    unfold lcTV at e1
    cases hx : liveAt n S1 with
    | none => rw [hx] at e1; cases e1
    | some xs =>
      simp only [hx] at e1
      obtain ⟨go, stop⟩ := rj (Dl :: B) ρ1 S1 H1 inb fr.big hs1 xs hx i
      cases hd : xs[i]? with
      | none => simp only [hd] at e1; cases e1
      | some d =>
        simp only [hd] at e1
        obtain ⟨g1, g2⟩ := go d hd
        refine .inr ⟨g1, fun H4 => ∃ m', m' < m + 1 ∧ ∃ ρ1 S1 accE ace rest, Fw [Dl] ρ H ρ1 H4 ∧ Hs G (Dl :: B) ρ1 S1 H4 ∧ Sl G (Dl :: B) ρ1 H4 σ0 σ0c ∧ H4 Dl = some (.lst ace) ∧ RVs G (Dl :: B) ρ1 H4 accE ace ∧ lcTV T n m' (i + 1) S1 = some (rest, S') ∧ accE ++ rest = accD ++ ys,
          fun _ h => h, fun x H2 hy => ?_⟩
        obtain ⟨fr2, hs2, rx⟩ := g2 x H2 hy
        have nD : Dl ∉ ρ1 := fun z => hs1.dis Dl z List.mem_cons_self
        have hD2 := fr2.keep _ _ hD1 nD
        cases eT : T d S1 with
        | none => simp only [eT] at e1; cases e1
        | some p =>
          obtain ⟨y1, S2⟩ := p
          simp only [eT] at e1
          cases er : lcTV T n m (i + 1) S2 with
          | none => simp only [er] at e1; cases e1
          | some p =>
            obtain ⟨zs, S3⟩ := p
            simp only [er] at e1
            cases e1
            refine tk ρ1 S1 H2 _ x y1 S2 accE ace _ hs2 (sl1.mono fr2 hs1) rx eT hD2 (ra1.mono fr2 hs1) (by
              rw [← ey] at hz
              simp only [List.length_append] at hz ⊢
              omega) fun ρ3 us H3 fr3 hs3 hD3 ra3 => ⟨m, Nat.lt_succ_self m, ρ3, S2, accE ++ y1, us, zs, (fr.trans1 fr2.wo hD1).trans1 fr3 hD2, hs3, (sl1.mono fr2 hs1).monoW fr3 hs2, hD3, ra3, er, by rw [List.append_assoc]; exact ey⟩
theorem loop_src {T : MTn} {Tc : V → Hp → (Hp → Prop) → Prop} {σ0 : Slots} {σ0c : L2.St} {J : It} {src : Src} {ys accD : List D} {Qd : Hp → Prop} (tk : TurnOk G B Dl σ0 σ0c T Tc) (hs : Hs G (Dl :: B) ρ S H) (sl : Sl G (Dl :: B) ρ H σ0 σ0c) (rj : RJ G (Dl :: B) ρ H J src)
    (hD : H Dl = some (.lst acc)) (ra : RVs G (Dl :: B) ρ H accD acc) (e : srcGo T src S = some (ys, S')) (hz : (accD ++ ys).length ≤ 100000)
    (k : ∀ ρ' us H', Fw [Dl] ρ H ρ' H' → Hs G (Dl :: B) ρ' S' H' → H' Dl = some (.lst us) → RVs G (Dl :: B) ρ' H' (accD ++ ys) us → Qd H') : Loop J Qd Tc H := by
  cases src with
  | items xs => exact loop_items tk hs sl rj hD ra e hz k
  | live n =>
    unfold srcGo at e
    simp only at e
    cases hx : liveAt n S with
    | none => rw [hx] at e; cases e
    | some xs =>
      rw [hx] at e
      exact loop_live tk hs sl rj hD ra e hz k
/-- the turn of one clause -/
def tc1 (G : Gx) (t : Tg) (tt : MT) (te : ME) (vs : List Nat) (σ0c : L2.St) (Dl : Addr) : V → Hp → (Hp → Prop) → Prop := fun x H' Nx => t.tg G.K x (L2.wipe σ0c vs) H' fun σ2 H2 => L2.wipe σ2 vs = L2.wipe σ0c vs ∧ RdT G tt σ2 H2 fun b H3 =>
  if b = true then RdE G te σ2 H3 fun y H4 => ∃ acc, H4 Dl = some (.lst acc) ∧ acc.length < sizeLine ∧ Nx (upd H4 Dl (.lst (acc ++ [y]))) else Nx H3
theorem turn1 {t : Tg} {tt : MT} {te : ME} {vs : List Nat} {σ : Slots} {σc : L2.St} (hw : t.within vs = true) : TurnOk G B Dl (wipeD σ vs) (L2.wipe σc vs) (tn1 t tt te (wipeD σ vs)) (tc1 G t tt te vs σc Dl) := by
  intro ρ S H x xc ys S1 accD acc Nx hs sl rx e hD ra hz k
  have nD : Dl ∉ ρ := fun z => hs.dis Dl z List.mem_cons_self
  unfold tn1 at e
  cases em : t.mg x (wipeD σ vs) with
  | none => rw [em] at e; cases e
  | some σ1 =>
    simp only [em] at e
    cases et : tt σ1 S with
    | none => rw [et] at e; cases e
    | some p =>
      obtain ⟨b, S2⟩ := p
      refine Tg.ok vs t sl rx em hw fun σc' sl' w' => ⟨w'.trans wipe_two, Dl :: B, ρ, S, σ1, b, S2, hs, sl', et, fun ρ1 H1 fr hs1 => ?_⟩
      have nD1 : Dl ∉ ρ1 := fr.out hD nD
      have hD1 := fr.keep _ _ hD nD
      cases b with
      | false =>
        simp only [et] at e
        cases e
        exact k ρ1 acc H1 fr.wo hs1 hD1 (by rw [List.append_nil]; exact ra.mono fr hs)
      | true =>
        simp only [et] at e
        cases ee : te σ1 S2 with
        | none => rw [ee] at e; cases e
        | some p =>
          obtain ⟨y, S3⟩ := p
          simp only [ee] at e
          cases e
          show RdE G te σc' H1 _
          refine ⟨Dl :: B, ρ1, S2, σ1, y, _, hs1, sl'.mono fr hs, ee, fun ρ2 yc H2 fr2 hs2 ry => ?_⟩
          have hD2 := fr2.keep _ _ hD1 nD1
          have ra2 := (ra.mono fr hs).mono fr2 hs1
          have q : RVs G (Dl :: B) ρ2 (upd H2 Dl (.lst (acc ++ [yc]))) (accD ++ [y]) (acc ++ [yc]) := (ra2.append (.cons ry .nil)).mono2 inb (Fw.atD (nofz' hD2 (fun _ _ z => nomatch z))).big hs2
          refine ⟨acc, hD2, ?_, k ρ2 _ _ ?_ (hs2.atD (nofz' hD2 (fun _ _ z => nomatch z))) upd_same q⟩
          · rw [← ra.length]
            simp only [List.length_append, List.length_singleton] at hz
            exact Nat.lt_of_lt_of_le (show accD.length < 100000 by omega) (by decide)
          · exact ((fr.wo).trans1 fr2.wo hD1).trans1 (Fw.atD (nofz' hD2 (fun _ _ z => nomatch z))) hD2
theorem turn2 {t t1 : Tg} {tt tt1 : MT} {te : ME} {mi1 : MI} {vs vs1 : List Nat} {σ : Slots} {σc : L2.St} (hw : t.within vs = true) (hw1 : t1.within vs1 = true) : TurnOk G B Dl (wipeD σ vs) (L2.wipe σc vs) (tn2 t tt mi1 t1 tt1 te vs1 (wipeD σ vs))
    (fun x H' Nx => t.tg G.K x (L2.wipe σc vs) H' fun σ2 H2 => L2.wipe σ2 vs = L2.wipe σc vs ∧ RdT G tt σ2 H2 fun b H3 => if b = true then RdI G mi1 σ2 H3 fun J1 H4 => Loop J1 Nx (tc1 G t1 tt1 te vs1 σ2 Dl) H4 else Nx H3) := by
  intro ρ S H x xc ys S1 accD acc Nx hs sl rx e hD ra hz k
  have nD : Dl ∉ ρ := fun z => hs.dis Dl z List.mem_cons_self
  unfold tn2 at e
  cases em : t.mg x (wipeD σ vs) with
  | none => rw [em] at e; cases e
  | some σ1 =>
    simp only [em] at e
    cases et : tt σ1 S with
    | none => rw [et] at e; cases e
    | some p =>
      obtain ⟨b, S2⟩ := p
      refine Tg.ok vs t sl rx em hw fun σc' sl' w' => ⟨w'.trans wipe_two, Dl :: B, ρ, S, σ1, b, S2, hs, sl', et, fun ρ1 H1 fr hs1 => ?_⟩
      have nD1 : Dl ∉ ρ1 := fr.out hD nD
      have hD1 := fr.keep _ _ hD nD
      cases b with
      | false =>
        simp only [et] at e
        cases e
        exact k ρ1 acc H1 fr.wo hs1 hD1 (by rw [List.append_nil]; exact ra.mono fr hs)
      | true =>
        simp only [et] at e
        cases ei : mi1 σ1 S2 with
        | none => rw [ei] at e; cases e
        | some p =>
          obtain ⟨src, S3⟩ := p
          simp only [ei] at e
          show RdI G mi1 σc' H1 _
          refine ⟨Dl :: B, ρ1, S2, σ1, src, S3, hs1, sl'.mono fr hs, ei, fun ρ2 H2 J fr2 hs2 rj => ?_⟩
          have hD2 := fr2.keep _ _ hD1 nD1
          exact loop_src (turn1 (σ := σ1) (σc := σc') hw1) hs2 (((sl'.mono fr hs).mono fr2 hs1).wipe vs1) rj hD2 ((ra.mono fr hs).mono fr2 hs1) e hz fun ρ3 us H3 fr3 hs3 hD3 r3 => k ρ3 us H3 ((fr.wo.trans1 fr2.wo hD1).trans1 fr3 hD2) hs3 hD3 r3
end
section
variable {X : Cx} {G : Gx} {elt tg iter tg1 iter1 : Expr} {ifs ifs1 : List Expr} {scope : Scope} {own : List (Str × Nat)} {pos : Pos} {mi mi1 : MI} {t t1 : Tg} {tt tt1 : MT} {te : ME} {vs vs1 : List Nat}
/-- from the data of a comprehension to its reading, whatever the turns' form -/
theorem lc_core' {T : Slots → MTn} {σc : L2.St} {H : Hp} {R : It → Addr → Hp → Prop} {Q : Addr → Hp → Prop} {Tc : Addr → V → Hp → (Hp → Prop) → Prop} {B ρ : List Addr} {S S' : Sto} {σ : Slots} {ys : List D} (hs : Hs G B ρ S H) (sl : Sl G B ρ H σ σc) (e : lcI mi T vs σ S = some (ys, S'))
    (tk : ∀ Dl, TurnOk G B Dl (wipeD σ vs) (L2.wipe σc vs) (T (wipeD σ vs)) (Tc Dl))
    (k : ∀ ρ1 H1 Dl, Fr ρ H ρ1 H1 → H1 Dl = none → Dl ∉ B → ∀ ρ' us H', Fr ρ1 H1 ρ' H' → Hs G (Dl :: B) ρ' S' H' → H' Dl = some (.lst us) → RVs G (Dl :: B) ρ' H' ys us → Q Dl H') :
    RdI G mi σc H fun J H1 => ∀ Dl, H1 Dl = none → Loop J (Q Dl) (Tc Dl) (upd H1 Dl (.lst [])) := by
  unfold lcI at e
  cases ei : mi σ S with
  | none => rw [ei] at e; cases e
  | some p =>
    obtain ⟨src, S1⟩ := p
    simp only [ei] at e
    cases eg : srcGo (T (wipeD σ vs)) src S1 with
    | none => rw [eg] at e; cases e
    | some p =>
      obtain ⟨zs, S2⟩ := p
      simp only [eg] at e
      split at e
      · rename_i hz
        cases e
        refine ⟨B, ρ, S, σ, src, S1, hs, sl, ei, fun ρ1 H1 J fr hs1 rj Dl hn => ?_⟩
        have nB : Dl ∉ B := fun z => by
          obtain ⟨o, q, _⟩ := hs1.bar Dl z
          rw [hn] at q
          cases q
        refine loop_src (tk Dl) (hs1.newbar hn) (((sl.mono fr hs).newbar hs1 hn).wipe vs) (rj.newbar hn) upd_same .nil eg hz fun ρ' us H' fr' hs' hD' r' => k ρ1 H1 Dl fr hn nB ρ' us H' ⟨fr'.pre, fun a o q na => ?_, fun a ha na => ?_, fun a o u q => fr'.fz a o u (by rw [upd_ne (ne_of_none q hn)]; exact q)⟩ hs' hD' r'
        · exact fr'.keep a o (by rw [upd_ne (ne_of_none q hn)]; exact q) na (by simpa using ne_of_none q hn)
        · have q := fr'.new a ha na
          by_cases e : a = Dl
          · rw [e]; exact hn
          · rw [upd_ne e] at q
            exact q
      · cases e
theorem lc_fin {T : Slots → MTn} {σc : L2.St} {H : Hp} {Q : VK} {Tc : Addr → V → Hp → (Hp → Prop) → Prop} (h : RdE G (mLc mi T vs) σc H Q) (tk : ∀ B σ Dl, TurnOk G B Dl (wipeD σ vs) (L2.wipe σc vs) (T (wipeD σ vs)) (Tc Dl)) :
    RdI G mi σc H fun J H1 => ∀ Dl, H1 Dl = none → Loop J (fun H' => Q (.ref Dl) H') (Tc Dl) (upd H1 Dl (.lst [])) := by
  obtain ⟨B, ρ, S, σ, v, S', hs, sl, e, k⟩ := h
  unfold mLc at e
  cases el : lcI mi T vs σ S with
  | none => rw [el] at e; cases e
  | some p =>
    obtain ⟨ys, S2⟩ := p
    rw [el] at e
    cases e
    exact lc_core' (Q := fun Dl H' => Q (.ref Dl) H') (R := fun _ _ _ => True) hs sl el (tk B σ) fun ρ1 H1 Dl fr hn nB ρ' us H' fr' hs' hD r => k ρ' _ H' (fr.trans fr') hs'.unbar (lst_ok hD nB (fun z => hs'.dis Dl z List.mem_cons_self) (r.bar (fun p h1 h2 => ⟨fun z => h1 (List.mem_cons_of_mem _ z), h2⟩) (List.prefix_refl _)))
theorem lc_finN {T : Slots → MTn} {σc : L2.St} {H : Hp} {Q : VK} {Tc : Addr → V → Hp → (Hp → Prop) → Prop} (h : RdE G (mLcN mi T vs) σc H Q) (tk : ∀ B σ Dl, TurnOk G B Dl (wipeD σ vs) (L2.wipe σc vs) (T (wipeD σ vs)) (Tc Dl)) :
    RdI G mi σc H fun J H1 => ∀ Dl, H1 Dl = none → Loop J (fun H' => Q (.ref Dl) H') (Tc Dl) (upd H1 Dl (.lst [])) := by
  obtain ⟨B, ρ, S, σ, v, S', hs, sl, e, k⟩ := h
  unfold mLcN at e
  cases el : lcI mi T vs σ S with
  | none => rw [el] at e; cases e
  | some p =>
    obtain ⟨ys, S2⟩ := p
    rw [el] at e
    cases e
    exact lc_core' (Q := fun Dl H' => Q (.ref Dl) H') (R := fun _ _ _ => True) hs sl el (tk B σ) fun ρ1 H1 Dl fr hn nB ρ' us H' fr' hs' hD r => by
      have fr2 := fr.trans fr'
      refine k (ρ' ++ [Dl]) _ H' ⟨fr2.pre.trans (List.prefix_append _ _), fr2.keep, fun a ha na => ?_, fr2.fz⟩ (hs'.adopt nB hD r) (.loc (by rw [← hs'.len, List.getElem?_append_right (Nat.le_refl _), Nat.sub_self]; rfl))
      rcases List.mem_append.mp ha with ha | ha
      · exact fr2.new a ha na
      · rw [List.mem_singleton.mp ha]
        cases q : H Dl with
        | none => rfl
        | some o =>
          have := fr.keep Dl o q (fun z => na (by rw [List.mem_singleton.mp ha]; exact z))
          rw [hn] at this
          cases this
abbrev HG (X : Cx) (G : Gx) (scope : Scope) (tg : Expr) (t : Tg) : Prop := ∀ (s : Shared) (H : Hp) (C : Addr) (cl : List (Str × Addr)) (fp : List Addr), PG (X.blk s H scope (compEnvC scope cl C X.env) fp) tg (t.tg G.K)
abbrev HT (X : Cx) (G : Gx) (scope : Scope) (ifs : List Expr) (tt : MT) : Prop := ∀ (s : Shared) (H : Hp) (C : Addr) (cl : List (Str × Addr)) (fp : List Addr), PTs (X.blk s H scope (compEnvC scope cl C X.env) fp) ifs (RdT G tt)
abbrev HE (X : Cx) (G : Gx) (scope : Scope) (elt : Expr) (te : ME) : Prop := ∀ (s : Shared) (H : Hp) (C : Addr) (cl : List (Str × Addr)) (fp : List Addr), PE (X.blk s H scope (compEnvC scope cl C X.env) fp) elt (RdE G te)
abbrev HI (X : Cx) (G : Gx) (scope : Scope) (tg iter : Expr) (mi : MI) : Prop := ∀ (s : Shared) (H : Hp) (C : Addr) (cl : List (Str × Addr)) (fp : List Addr), PI (X.blk s H scope (compEnvC scope cl C X.env) fp) tg iter (RdI G mi)
theorem e_lc (hc : X.calm = true) (hN : X.N.Nodup) (hi : PI X tg iter (RdI G mi)) (ok : BlkOk X.N X.env.scope scope own) (hg : HG X G scope tg t) (ht : HT X G scope ifs tt) (he : HE X G scope elt te) (hw : t.within (own.map (·.2)) = true) (hs : ∀ x, foldedSetIterable iter X.env x = pure x := by intro _; rfl) :
    PE X (.ListComp elt [⟨tg, iter, ifs, 0⟩] scope pos) (RdE G (mLc mi (tn1 t tt te) (own.map (·.2)))) := PE_imp (pe_lc hc hN hi ok hg ht he hs) fun σ _ _ h => lc_fin h fun B σ' Dl => turn1 hw
theorem e_lcN (hc : X.calm = true) (hN : X.N.Nodup) (hi : PI X tg iter (RdI G mi)) (ok : BlkOk X.N X.env.scope scope own) (hg : HG X G scope tg t) (ht : HT X G scope ifs tt) (he : HE X G scope elt te) (hw : t.within (own.map (·.2)) = true) (hs : ∀ x, foldedSetIterable iter X.env x = pure x := by intro _; rfl) :
    PE X (.ListComp elt [⟨tg, iter, ifs, 0⟩] scope pos) (RdE G (mLcN mi (tn1 t tt te) (own.map (·.2)))) := PE_imp (pe_lc hc hN hi ok hg ht he hs) fun σ _ _ h => lc_finN h fun B σ' Dl => turn1 hw
theorem e_lc2 (hc : X.calm = true) (hN : X.N.Nodup) (hi : PI X tg iter (RdI G mi)) (ok : BlkOk X.N X.env.scope scope own) (hv : ∀ i ∈ vs1, i ∈ own.map (·.2)) (hg : HG X G scope tg t) (ht : HT X G scope ifs tt) (hi1 : HI X G scope tg1 iter1 mi1) (hg1 : HG X G scope tg1 t1) (ht1 : HT X G scope ifs1 tt1) (he : HE X G scope elt te)
    (hw : t.within (own.map (·.2)) = true) (hw1 : t1.within vs1 = true) (hs : ∀ x, foldedSetIterable iter X.env x = pure x := by intro _; rfl) (hs1 : ∀ env x, foldedSetIterable iter1 env x = pure x := by intro _ _; rfl) :
    PE X (.ListComp elt [⟨tg, iter, ifs, 0⟩, ⟨tg1, iter1, ifs1, 0⟩] scope pos) (RdE G (mLc mi (tn2 t tt mi1 t1 tt1 te vs1) (own.map (·.2)))) := PE_imp (pe_lc2 hc hN hi ok hv hg ht hi1 hg1 ht1 he hs hs1) fun σ _ _ h => lc_fin h fun B σ' Dl => turn2 hw hw1
/-- y = [..] at a name -/
theorem RdS_asg {te' : TE} {i : Nat} {ma : ME} {D : Ends} {σc : L2.St} {H : Hp} (imp : ∀ Q, RdE G ma σc H Q → te' σc H Q) (h : RdS G (sAsg ma (gNm i)) D σc H) : tAsg te' (gName i) D σc H := by
  obtain ⟨B, ρ, S, σ, f, σ', S', hs, sl, e, k⟩ := h
  unfold sAsg at e
  cases ea : ma σ S with
  | none => rw [ea] at e; cases e
  | some p =>
    obtain ⟨d, S1⟩ := p
    rw [ea] at e
    cases e
    exact imp _ ⟨B, ρ, S, _, d, _, hs, sl, ea, fun ρ1 xc H1 fr hs1 rx => k ρ1 _ H1 fr hs1 ((sl.mono fr hs).set i rx)⟩
section
variable {i : Nat} {y : Str} {py spos : Pos}
theorem s_setLc (hc : X.calm = true) (hN : X.N.Nodup) (hy : X.N[i]? = some y) (hyl : X.env.scope.names.lookup y = some .local) (hsw : swapsWith (.ListComp elt [⟨tg, iter, ifs, 0⟩] scope pos) (some (.Name y py)) spos.line X.env = pure true)
    (hi : PI X tg iter (RdI G mi)) (ok : BlkOk X.N X.env.scope scope own) (hg : HG X G scope tg t) (ht : HT X G scope ifs tt) (he : HE X G scope elt te) (hw : t.within (own.map (·.2)) = true) (hs : ∀ x, foldedSetIterable iter X.env x = pure x := by intro _; rfl) :
    PS X (.Assign [.Name y py] (.ListComp elt [⟨tg, iter, ifs, 0⟩] scope pos) spos) (RdS G (sAsg (mLc mi (tn1 t tt te) (own.map (·.2))) (gNm i))) := PS_imp (ps_setLc hc hN hy hyl hsw hi ok hg ht he hs) fun D σ H h => RdS_asg (fun Q h => lc_fin h fun B σ' Dl => turn1 hw) h
theorem s_setLcN (hc : X.calm = true) (hN : X.N.Nodup) (hy : X.N[i]? = some y) (hyl : X.env.scope.names.lookup y = some .local) (hsw : swapsWith (.ListComp elt [⟨tg, iter, ifs, 0⟩] scope pos) (some (.Name y py)) spos.line X.env = pure true)
    (hi : PI X tg iter (RdI G mi)) (ok : BlkOk X.N X.env.scope scope own) (hg : HG X G scope tg t) (ht : HT X G scope ifs tt) (he : HE X G scope elt te) (hw : t.within (own.map (·.2)) = true) (hs : ∀ x, foldedSetIterable iter X.env x = pure x := by intro _; rfl) :
    PS X (.Assign [.Name y py] (.ListComp elt [⟨tg, iter, ifs, 0⟩] scope pos) spos) (RdS G (sAsg (mLcN mi (tn1 t tt te) (own.map (·.2))) (gNm i))) := PS_imp (ps_setLc hc hN hy hyl hsw hi ok hg ht he hs) fun D σ H h => RdS_asg (fun Q h => lc_finN h fun B σ' Dl => turn1 hw) h
theorem s_setLc2 (hc : X.calm = true) (hN : X.N.Nodup) (hy : X.N[i]? = some y) (hyl : X.env.scope.names.lookup y = some .local) (hsw : swapsWith (.ListComp elt [⟨tg, iter, ifs, 0⟩, ⟨tg1, iter1, ifs1, 0⟩] scope pos) (some (.Name y py)) spos.line X.env = pure true)
    (hi : PI X tg iter (RdI G mi)) (ok : BlkOk X.N X.env.scope scope own) (hv : ∀ i ∈ vs1, i ∈ own.map (·.2)) (hg : HG X G scope tg t) (ht : HT X G scope ifs tt) (hi1 : HI X G scope tg1 iter1 mi1) (hg1 : HG X G scope tg1 t1) (ht1 : HT X G scope ifs1 tt1) (he : HE X G scope elt te)
    (hw : t.within (own.map (·.2)) = true) (hw1 : t1.within vs1 = true) (hs : ∀ x, foldedSetIterable iter X.env x = pure x := by intro _; rfl) (hs1 : ∀ env x, foldedSetIterable iter1 env x = pure x := by intro _ _; rfl) :
    PS X (.Assign [.Name y py] (.ListComp elt [⟨tg, iter, ifs, 0⟩, ⟨tg1, iter1, ifs1, 0⟩] scope pos) spos) (RdS G (sAsg (mLc mi (tn2 t tt mi1 t1 tt1 te vs1) (own.map (·.2))) (gNm i))) := PS_imp (ps_setLc2 hc hN hy hyl hsw hi ok hv hg ht hi1 hg1 ht1 he hs hs1) fun D σ H h => RdS_asg (fun Q h => lc_fin h fun B σ' Dl => turn2 hw hw1) h
end
theorem ts_nil : PTs X [] (RdT G tYes') := ⟨fun pins s σ H Q I ⟨B, ρ, S, σ', b, S', hs, sl, e, k⟩ => pts_nil.run pins s σ H Q I (by
  cases e
  exact k ρ H Fr.refl hs)⟩
theorem ts_one {c : Expr} (h : PT X c (RdT G tt)) : PTs X [c] (RdT G tt) := pts_one h
/-- the name of a comprehension's own, a tuple of such -/
theorem tg_name {i : Nat} {x : Str} (hN : X.N.Nodup) (hi : X.N[i]? = some x) (hx : Loc X.env.scope x) (hf : X.fn x = true ∨ X.env.scope.names.lookup x = some .local := by first | exact .inl rfl | exact .inr rfl | assumption) : PG X (.Name x pos) ((Tg.nm i).tg G.K) := pg_name hN hi hx hf
theorem tgs_nil : PGs X [] (Tg.tgs G.K []) := pgs_nil
theorem tgs_cons {e : Expr} {es : List Expr} {t : Tg} {ts : List Tg} (h1 : PG X e (t.tg G.K)) (h2 : PGs X es (Tg.tgs G.K ts)) (hm : (assignEach (e :: es) X.env).map (·.2) = assign e X.env :: (assignEach es X.env).map (·.2) := by rfl) : PGs X (e :: es) (Tg.tgs G.K (t :: ts)) := pgs_cons h1 h2 hm
theorem tg_tup {es : List Expr} {k : Nat} {ts : List Tg} (hK : X.K = G.K) (hc : X.calm = true) (h : PGs X es (Tg.tgs G.K ts)) (hn : (assignEach es X.env).length = ts.length := by rfl) (hst : (assignEach es X.env).findIdx? (·.1) = none := by rfl) : PG X (.Tuple es k pos) ((Tg.tp ts).tg G.K) := by
  have q : PG X (.Tuple es k pos) (gTup X.K ts.length (Tg.tgs G.K ts)) := pg_tup hc h hn hst
  rw [hK] at q
  exact q
/-- the same as a statement's target -/
def gTg (t : Tg) : MG := fun d σ S => match t.mg d σ with
  | none => none
  | some σ1 => some (σ1, S)
def Tg.slots : Tg → List Nat
  | .nm i => [i]
  | .tp ts => Tg.slotss ts
where Tg.slotss : List Tg → List Nat
  | [] => []
  | t :: ts => t.slots ++ Tg.slotss ts
end
end Rf
end

section
set_option Elab.async false
set_option linter.all false
set_option maxRecDepth 100000
set_option maxHeartbeats 4000000
/-! Rf7: operators, comparisons, subscripts, by values. -/
namespace Rf
open PySem L2

abbrev F2 := D → D → Sto → Option (D × Sto)
abbrev F1 := D → Sto → Option (D × Sto)
def asLst (d : D) (S : Sto) : Option (List D) := match d with
  | .p (.lst xs) => some (xs.map .p)
  | .mxl xs => some xs
  | .loc n => liveAt n S
  | _ => none
/-- a list or a tuple to be read -/
def asSeq (d : D) (S : Sto) : Option (List D) := match d with
  | .p (.lst xs) => some (xs.map .p)
  | .p (.tup xs) => some (xs.map .p)
  | .p (.scr ns) => some (ns.map fun i => .p (.int i))
  | .mix xs => some xs
  | .mxl xs => some xs
  | .loc n => liveAt n S
  | _ => none

section
variable {X : Cx} {G : Gx} {B ρ ρ' : List Addr} {S S' : Sto} {H H' : Hp} {x y z d : D} {v u : V} {Q : VK}
theorem OpR_imp {f : Value → Value → Sem Value} {r r' : R2} (h : OpR X f r) (k : ∀ x y H Q, r' x y H Q → r x y H Q) : OpR X f r' := fun pins s σ H x y v u Q I rx ry q => h pins s σ H x y v u Q I rx ry (k x y H Q q)
theorem OpR_or {f : Value → Value → Sem Value} {r r' : R2} (h : OpR X f r) (h' : OpR X f r') : OpR X f (fun x y H Q => r x y H Q ∨ r' x y H Q) := fun pins s σ H x y v u Q I rx ry q => by
  rcases q with q | q
  · exact h pins s σ H x y v u Q I rx ry q
  · exact h' pins s σ H x y v u Q I rx ry q
theorem IxR_imp {r r' : R2} (h : IxR X r) (k : ∀ x y H Q, r' x y H Q → r x y H Q) : IxR X r' := fun value slice pins s σ H x y v u Q I rx ry q hs => h value slice pins s σ H x y v u Q I rx ry (k x y H Q q) hs
theorem liveAt_ok {n : Nat} {a : Addr} {xs : List D} (hs : Hs G B ρ S H) (ha : ρ[n]? = some a) (e : liveAt n S = some xs) : ∃ vs, H a = some (.lst vs) ∧ RVs G B ρ H xs vs := by
  unfold liveAt at e
  split at e
  · rename_i ys hy
    cases e
    exact hs.obj n a _ ha hy
  · cases e
theorem asLst_ok {xs : List D} (hs : Hs G B ρ S H) (r : RV G B ρ H d v) (e : asLst d S = some xs) : ∃ p vs, v = .ref p ∧ H p = some (.lst vs) ∧ RVs G B ρ H xs vs := by
  cases r with
  | p q =>
    cases q with
    | lst s b n t => cases e; exact ⟨_, _, rfl, s, t.toD⟩
    | _ => cases e
  | loc ha =>
    obtain ⟨vs, h1, h2⟩ := liveAt_ok hs ha e
    exact ⟨_, vs, rfl, h1, h2⟩
  | mix s t => cases e
  | mxl s b n t => cases e; exact ⟨_, _, rfl, s, t⟩
theorem asSeq_ok {xs : List D} (hs : Hs G B ρ S H) (r : RV G B ρ H d v) (e : asSeq d S = some xs) : ∃ p vs, v = .ref p ∧ (SqL G.K H p vs ∨ SqT G.K H p vs) ∧ RVs G B ρ H xs vs := by
  cases r with
  | p q =>
    cases q with
    | lst s b n t => cases e; exact ⟨_, _, rfl, .inl (SqL.of s), t.toD⟩
    | tup s t => cases e; exact ⟨_, _, rfl, .inr s.sqt, t.toD⟩
    | scr s => cases e; exact ⟨_, _, rfl, .inl s.sql, scr_items⟩
    | _ => cases e
  | loc ha =>
    obtain ⟨vs, h1, h2⟩ := liveAt_ok hs ha e
    exact ⟨_, vs, rfl, .inl (SqL.of h1), h2⟩
  | mix s t => cases e; exact ⟨_, _, rfl, .inr s.sqt, t⟩
  | mxl s b n t => cases e; exact ⟨_, _, rfl, .inl (SqL.of s), t⟩
theorem allP_map : ∀ ps : List P, allP (ps.map .p) = some ps
  | [] => rfl
  | x :: r => by
    rw [List.map_cons]
    unfold allP
    rw [allP_map r]
theorem asTup_back {xs : List D} (r : RV G B ρ H d v) (e : asTup d = some xs) : RV G B ρ H (tupOf xs) v := by
  cases r with
  | p q =>
    cases q with
    | tup s t =>
      cases e
      unfold tupOf
      rw [allP_map]
      exact .p (.tup s t)
    | _ => cases e
  | loc ha => cases e
  | mix s t => cases e; exact tup_ok s t
  | mxl s b n t => cases e
end

/-! ### + - * // % ** << >> & -/
def addD : F2 := fun x y S => match x, y with
  | .p (.int i), .p (.int j) => some (.p (.int (i + j)), S)
  | .p (.str a), .p (.str b) => if a.length + b.length ≤ 100000 then some (.p (.str (a ++ b)), S) else none
  | x, y => match asTup x, asTup y with
    | some xs, some ys => if xs.length + ys.length ≤ 100000 then some (tupOf (xs ++ ys), S) else none
    | _, _ => match asLst x S, asLst y S with
      | some xs, some ys => if xs.length + ys.length ≤ 100000 then some (lstOf (xs ++ ys), S) else none
      | _, _ => none
def intD (f : Int → Int → Option Int) : F2 := fun x y S => match x, y with
  | .p (.int i), .p (.int j) => (match f i j with
    | some k => some (.p (.int k), S)
    | none => none)
  | _, _ => none
def subD : F2 := intD fun i j => some (i - j)
def mulI (i j : Int) : Option Int := if i.natAbs.log2 + j.natAbs.log2 < 900000 then some (i * j) else none
def fdivI (i j : Int) : Option Int := if 0 < j ∧ j.natAbs.log2 < 9000 then some (i / j) else none
def modI (i j : Int) : Option Int := if 0 < j then some (i % j) else none
def powI (i j : Int) : Option Int := if 0 ≤ j ∧ j ≤ 1000 ∧ i.natAbs < 2 ^ 64 then some (i ^ j.toNat) else none
def shlI (i j : Int) : Option Int := if 0 ≤ j ∧ j ≤ 1000 ∧ i.natAbs < 2 ^ 64 then some (i * 2 ^ j.toNat) else none
def shrI (i j : Int) : Option Int := if 0 ≤ j then some (i / 2 ^ j.toNat) else none
def mulD : F2 := fun x y S => match x, y with
  | .p (.int i), .p (.int j) => (match mulI i j with
    | some k => some (.p (.int k), S)
    | none => none)
  | .p (.str a), .p (.int j) => if 0 ≤ j ∧ j ≤ 1 then some (.p (.str (if j = 0 then Str.empty else a)), S) else none
  | .p (.tup xs), .p (.int j) => if xs ≠ [] ∧ 1 ≤ j ∧ j ≤ 1000 ∧ xs.length ≤ 1000 then some (.p (.tup (List.replicate j.toNat xs).flatten), S) else none
  | .p (.lst xs), .p (.int j) => if -1000 ≤ j ∧ j ≤ 100000 ∧ xs.length * j.toNat ≤ 100000 then some (.p (.lst (List.replicate j.toNat xs).flatten), S) else none
  | _, _ => none
def fdivD : F2 := intD fdivI
def modD : F2 := intD modI
def powD : F2 := intD powI
def shlD : F2 := intD shlI
def shrD : F2 := intD shrI
def andD : F2 := intD fun i j => some (Builtin.bitAnd i j)
def negD : F1 := fun x S => match x with
  | .p (.int i) => some (.p (.int (-i)), S)
  | _ => none
section
variable {X : Cx} {G : Gx}
theorem Po.p {B ρ : List Addr} {S : Sto} {H : Hp} {x : P} {v : V} {Q : VK} (hs : Hs G B ρ S H) (k : Po G B ρ H (.p x) S Q) (r : RP G B ρ H x v) : Q v H := k ρ v H Fr.refl hs (.p r)
theorem o_int {f : Value → Value → Sem Value} {C : Int → Int → Prop} {g : Int → Int → Int} {h : Int → Int → Option Int} (ho : OpR X f (rI C fun i j => .int (g i j))) (k : ∀ i j z, h i j = some z → C i j ∧ z = g i j) : OpR X f (O2 G (intD h)) :=
  OpR_imp ho fun xc yc H Q ⟨B, ρ, S, x, y, z, S', hs, rx, ry, e, q⟩ => by
    unfold intD at e
    split at e
    · rename_i i j
      split at e
      · rename_i w hw
        cases e
        obtain ⟨c, rfl⟩ := k i j w hw
        exact ⟨i, j, rv_int rx, rv_int ry, c, q.p hs (.int _)⟩
      · cases e
    · cases e
theorem o_int0 {f : Value → Value → Sem Value} {g : Int → Int → Int} (ho : OpR X f (rI0 fun i j => .int (g i j))) : OpR X f (O2 G (intD fun i j => some (g i j))) :=
  OpR_imp ho fun xc yc H Q ⟨B, ρ, S, x, y, z, S', hs, rx, ry, e, q⟩ => by
    unfold intD at e
    split at e
    · rename_i i j
      cases e
      exact ⟨i, j, rv_int rx, rv_int ry, q.p hs (.int _)⟩
    · cases e
theorem o_sub : OpR X (binaryOp .Sub) (O2 G subD) := o_int0 op_sub
theorem o_fdiv : OpR X (binaryOp .FloorDiv) (O2 G fdivD) := o_int op_fdivW fun i j z h => by
  unfold fdivI at h
  split at h
  · rename_i c
    cases h
    exact ⟨c, rfl⟩
  · cases h
theorem o_mod : OpR X (binaryOp .Mod) (O2 G modD) := o_int op_mod fun i j z h => by
  unfold modI at h
  split at h
  · rename_i c
    cases h
    exact ⟨c, rfl⟩
  · cases h
theorem o_pow : OpR X (binaryOp .Pow) (O2 G powD) := o_int op_pow fun i j z h => by
  unfold powI at h
  split at h
  · rename_i c
    cases h
    exact ⟨⟨c.1, by omega, c.2.2⟩, rfl⟩
  · cases h
theorem o_shl : OpR X (binaryOp .LShift) (O2 G shlD) := o_int op_shl fun i j z h => by
  unfold shlI at h
  split at h
  · rename_i c
    cases h
    exact ⟨⟨c.1, by omega, c.2.2⟩, rfl⟩
  · cases h
theorem o_shr : OpR X (binaryOp .RShift) (O2 G shrD) := o_int op_shr fun i j z h => by
  unfold shrI at h
  split at h
  · rename_i c
    cases h
    exact ⟨c, rfl⟩
  · cases h
theorem o_and : OpR X (binaryOp .BitAnd) (O2 G andD) := o_int0 op_and
theorem o_neg : UnR X (unaryOp .USub) (O1 G negD) := fun pins s σ H xc v Q I rx ⟨B, ρ, S, x, z, S', hs, r, e, q⟩ => by
  unfold negD at e
  split at e
  · rename_i i
    cases e
    exact un_neg pins s σ H xc v Q I rx ⟨i, rv_int r, q.p hs (.int _)⟩
  · cases e
theorem o_add (hK : X.K = G.K) : OpR X (binaryOp .Add) (O2 G addD) :=
  OpR_imp (OpR_or (OpR_or op_add op_add_str) (OpR_or op_catF op_cat)) fun xc yc H Q ⟨B, ρ, S, x, y, z, S', hs, rx, ry, e, q⟩ => by
    unfold addD at e
    split at e
    · rename_i i j
      cases e
      exact .inl (.inl ⟨i, j, rv_int rx, rv_int ry, q.p hs (.int _)⟩)
    · rename_i a b
      split at e
      · rename_i hz
        cases e
        exact .inl (.inr ⟨a, b, rv_str rx, rv_str ry, sz_ok hz, q.p hs (.str _)⟩)
      · cases e
    · split at e
      · rename_i xs ys hx hy
        split at e
        · rename_i hz
          cases e
          obtain ⟨a, vs, rfl, sa, ra⟩ := asTup_ok hx rx
          obtain ⟨b, us, rfl, sb, rb⟩ := asTup_ok hy ry
          refine .inr (.inl ⟨a, b, vs, us, rfl, rfl, by rw [hK]; exact sa, by rw [hK]; exact sb, by rw [← ra.length, ← rb.length]; exact sz_ok hz, fun h => ?_, fun h1 h2 => ?_, fun h1 h2 => q.newT hs (ra.append rb)⟩)
          · subst h
            cases ra
            exact q.here hs (asTup_back ry hy)
          · subst h2
            cases rb
            rw [List.append_nil] at q
            exact q.here hs (asTup_back rx hx)
        · cases e
      · split at e
        · rename_i xs ys hx hy
          split at e
          · rename_i hz
            cases e
            obtain ⟨a, vs, rfl, sa, ra⟩ := asLst_ok hs rx hx
            obtain ⟨b, us, rfl, sb, rb⟩ := asLst_ok hs ry hy
            exact .inr (.inr ⟨a, b, vs, us, rfl, rfl, sa, sb, by rw [← ra.length, ← rb.length]; exact sz_ok hz, fun p hp => q.newL hs (ra.append rb) hp⟩)
          · cases e
        · cases e
theorem RPs.flat_rep {B ρ : List Addr} {H : Hp} {xs : List P} {vs : List V} (r : RPs G B ρ H xs vs) : ∀ n : Nat, RPs G B ρ H (List.replicate n xs).flatten (List.replicate n vs).flatten
  | 0 => .nil
  | n + 1 => by
    rw [List.replicate_succ, List.replicate_succ, List.flatten_cons, List.flatten_cons]
    exact r.append (RPs.flat_rep r n)
def rMulS : R2 := fun x y H Q => ∃ a j, x = .str a ∧ y = .int j ∧ (0 ≤ j ∧ j ≤ 1) ∧ Q (.str (if j = 0 then Str.empty else a)) H
theorem op_mulS : OpR X (binaryOp .Mult) rMulS := by
  intro pins s σ H x y v u Q I rx ry h
  obtain ⟨a, j, rfl, rfl, hj, q⟩ := h
  obtain ⟨t, rfl⟩ := rx
  obtain ⟨t', rfl⟩ := ry
  have hok : PySem.MulOk a j := by
    refine ⟨?_, fun h1 h2 => ?_, fun h1 h2 => ?_⟩
    · have h1 : ¬ j < -(2 ^ 63 : Int) := by omega
      have h2 : ¬ j ≥ 2 ^ 63 := by omega
      rw [decide_eq_false h1, decide_eq_false h2]
      rfl
    · have e : j = 1 := by omega
      subst e
      simp at h2
    · have e : j = 1 := by omega
      subst e
      simp at h2
  refine PySem.SB.mul hok fun t' k => ?_
  have e : PySem.Txt.mul a j = if j = 0 then Str.empty else a := by
    unfold PySem.Txt.mul
    by_cases h0 : j = 0
    · rw [if_pos (by omega), if_pos h0]
    · have e1 : j = 1 := by omega
      subst e1
      rw [if_neg (by omega), if_pos (by simp), if_neg (by decide)]
  rw [e]
  exact ⟨.str _, H, I.tok _, ⟨_, rfl⟩, q⟩
theorem o_mul (hK : X.K = G.K) : OpR X (binaryOp .Mult) (O2 G mulD) :=
  OpR_imp (OpR_or (OpR_or op_mulW op_mulS) (OpR_or op_repF op_rep)) fun xc yc H Q ⟨B, ρ, S, x, y, z, S', hs, rx, ry, e, q⟩ => by
    unfold mulD at e
    split at e
    · rename_i i j
      split at e
      · rename_i w hw
        cases e
        unfold mulI at hw
        split at hw
        · rename_i hc
          cases hw
          exact .inl (.inl ⟨i, j, rv_int rx, rv_int ry, (show i.natAbs.log2 + j.natAbs.log2 < 1000000 by omega), q.p hs (.int _)⟩)
        · cases hw
      · cases e
    · rename_i a j
      split at e
      · rename_i hc
        cases e
        exact .inl (.inr ⟨a, j, rv_str rx, rv_int ry, hc, q.p hs (.str _)⟩)
      · cases e
    · rename_i xs j
      split at e
      · rename_i hc
        cases e
        cases rx with
        | p rx =>
          cases rx with
          | tup s t =>
            refine .inr (.inl ⟨_, j, _, rfl, rv_int ry, by rw [hK]; exact s.sqt, fun z => hc.1 (by
              subst z
              cases t
              rfl), hc.2.1, hc.2.2.1, by rw [← t.length]; exact hc.2.2.2, fun h1 => ?_, fun _ p o hp hd => ?_⟩)
            · subst h1
              have e : (List.replicate (1 : Int).toNat xs).flatten = xs := by simp
              rw [e] at q
              exact q.here hs (.p (.tup s t))
            · exact q ρ _ _ (Fr.laid hp) (hs.laid hp) (.p (.tup (.inl ⟨o, hd, upd_same⟩) ((RPs.flat_rep t _).mono (Fr.laid hp) hs)))
      · cases e
    · rename_i xs j
      split at e
      · rename_i hc
        cases e
        cases rx with
        | p rx =>
          cases rx with
          | lst s n1 n2 t =>
            refine .inr (.inr ⟨_, j, _, rfl, rv_int ry, s, by omega, by omega, by rw [← t.length]; exact sz_ok hc.2.2, fun p hp => ?_⟩)
            exact q ρ _ _ (Fr.laid hp) (hs.laid hp) (.p (.lst upd_same (hs.fresh hp).1 (hs.fresh hp).2 ((RPs.flat_rep t _).mono (Fr.laid hp) hs)))
      · cases e
    · cases e
end

/-! ### < <= > >= -/
def cmpD (f : Int → Int → Bool) (g : Str → Str → Bool) : F2 := fun x y S => match x, y with
  | .p (.int i), .p (.int j) => some (.p (.bl (f i j)), S)
  | .p (.str a), .p (.str b) => some (.p (.bl (g a b)), S)
  | _, _ => none
def ltD : F2 := cmpD (fun i j => decide (i < j)) fun a b => decide (a.cps.toList < b.cps.toList)
def leD : F2 := cmpD (fun i j => decide (i ≤ j)) fun a b => !decide (b.cps.toList < a.cps.toList)
def gtD : F2 := cmpD (fun i j => decide (j < i)) fun a b => decide (b.cps.toList < a.cps.toList)
def geD : F2 := cmpD (fun i j => decide (j ≤ i)) fun a b => !decide (a.cps.toList < b.cps.toList)
section
variable {X : Cx} {G : Gx}
theorem o_cmp {f : Value → Value → Sem Value} {p : Int → Int → Bool} {g : Str → Str → Bool} (h1 : OpR X f (rI0 fun i j => .bl (p i j))) (h2 : OpR X f (fun x y H Q => ∃ i j, x = .str i ∧ y = .str j ∧ Q (.bl (g i j)) H)) : OpR X f (O2 G (cmpD p g)) :=
  OpR_imp (OpR_or h1 h2) fun xc yc H Q ⟨B, ρ, S, x, y, z, S', hs, rx, ry, e, q⟩ => by
    unfold cmpD at e
    split at e
    · rename_i i j
      cases e
      exact .inl ⟨i, j, rv_int rx, rv_int ry, q.p hs (.bl _)⟩
    · rename_i a b
      cases e
      exact .inr ⟨a, b, rv_str rx, rv_str ry, q.p hs (.bl _)⟩
    · cases e
theorem o_lt : OpR X (compareOp .Lt) (O2 G ltD) := o_cmp op_lt op_lt_str
theorem o_le : OpR X (compareOp .LtE) (O2 G leD) := o_cmp op_le op_le_str
theorem o_gt : OpR X (compareOp .Gt) (O2 G gtD) := o_cmp op_gt op_gt_str
theorem o_ge : OpR X (compareOp .GtE) (O2 G geD) := o_cmp op_ge op_ge_str
end

/-! ### == != -/
mutual
def eqP : P → P → Bool
  | .non, .non => true
  | .bl a, .bl b => a == b
  | .bl a, .int j => (if a then 1 else 0) == j
  | .int i, .bl b => i == (if b then 1 else 0)
  | .int i, .int j => i == j
  | .str x, .str y => x == y
  | .lst xs, .lst ys => eqPs xs ys
  | .tup xs, .tup ys => eqPs xs ys
  | _, _ => false
def eqPs : List P → List P → Bool
  | [], [] => true
  | x :: xs, y :: ys => eqP x y && eqPs xs ys
  | _, _ => false
end
mutual
/-- data that == may ask, to a depth -/
def okP : Nat → P → Bool
  | _, .non => true
  | _, .bl _ => true
  | _, .int _ => true
  | _, .str x => PySem.PyData.strOk x
  | n + 1, .tup xs => okPs n xs
  | n + 1, .lst xs => okPs n xs
  | _, _ => false
def okPs : Nat → List P → Bool
  | _, [] => true
  | n, x :: xs => okP n x && okPs n xs
end
mutual
def pyP : P → PyData
  | .non => .none
  | .bl b => .bool b
  | .int i => .int i
  | .str x => .str x
  | .tup xs => .tuple (pyPs xs)
  | .lst xs => .list (pyPs xs)
  | .fn _ => .none
  | .scr _ => .none
  | .tk _ => .none
  | .ty _ => .none
def pyPs : List P → List PyData
  | [] => []
  | x :: xs => pyP x :: pyPs xs
end
mutual
theorem okP_dp {G : Gx} {B ρ : List Addr} {H : Hp} : ∀ (n : Nat) (x : P) {v : V}, okP n x = true → RP G B ρ H x v → Dp G.K H v (pyP x)
  | _, .non, _, _, .non => .non
  | _, .bl b, _, _, .bl _ => .bl b
  | _, .int i, _, _, .int _ => .int i
  | _, .str x, _, _, .str _ => .str x
  | n + 1, .tup xs, _, h, .tup s t => .tup s.sqt (okPs_dp n xs (by simpa [okP] using h) t)
  | n + 1, .lst xs, _, h, .lst s _ _ t => .lst (SqL.of s) (okPs_dp n xs (by simpa [okP] using h) t)
  | 0, .tup xs, _, h, _ => by simp [okP] at h
  | 0, .lst xs, _, h, _ => by simp [okP] at h
  | n, .fn _, _, h, _ => by cases n <;> simp [okP] at h
  | n, .scr _, _, h, _ => by cases n <;> simp [okP] at h
  | n, .tk _, _, h, _ => by cases n <;> simp [okP] at h
  | n, .ty _, _, h, _ => by cases n <;> simp [okP] at h
theorem okPs_dp {G : Gx} {B ρ : List Addr} {H : Hp} : ∀ (n : Nat) (xs : List P) {vs : List V}, okPs n xs = true → RPs G B ρ H xs vs → DpAll G.K H vs (pyPs xs)
  | _, [], _, _, .nil => .nil
  | n, x :: xs, _, h, .cons r t => by
    simp only [okPs, Bool.and_eq_true] at h
    exact .cons (okP_dp n x h.1 r) (okPs_dp n xs h.2 t)
end
mutual
theorem okP_lay : ∀ (n : Nat) (x : P), okP n x = true → (pyP x).canLay0 = true ∧ (pyP x).depth ≤ n + 1
  | _, .non, _ => ⟨rfl, by simp [pyP, PyData.depth]⟩
  | _, .bl b, _ => ⟨rfl, by simp [pyP, PyData.depth]⟩
  | _, .int i, _ => ⟨rfl, by simp [pyP, PyData.depth]⟩
  | n, .str x, h => ⟨by cases n <;> simpa [okP, pyP, PyData.canLay0] using h, by simp [pyP, PyData.depth]⟩
  | n + 1, .tup xs, h => by
    obtain ⟨a, b⟩ := okPs_lay n xs (by simpa [okP] using h)
    exact ⟨by simpa [pyP, PyData.canLay0] using a, by simp only [pyP, PyData.depth]; omega⟩
  | n + 1, .lst xs, h => by
    obtain ⟨a, b⟩ := okPs_lay n xs (by simpa [okP] using h)
    exact ⟨by simpa [pyP, PyData.canLay0] using a, by simp only [pyP, PyData.depth]; omega⟩
  | 0, .tup xs, h => by simp [okP] at h
  | 0, .lst xs, h => by simp [okP] at h
  | n, .fn _, h => by cases n <;> simp [okP] at h
  | n, .scr _, h => by cases n <;> simp [okP] at h
  | n, .tk _, h => by cases n <;> simp [okP] at h
  | n, .ty _, h => by cases n <;> simp [okP] at h
theorem okPs_lay : ∀ (n : Nat) (xs : List P), okPs n xs = true → PyData.canLayAll0 (pyPs xs) = true ∧ PyData.depthAll (pyPs xs) ≤ n + 1
  | _, [], _ => ⟨rfl, by simp [pyPs, PyData.depthAll]⟩
  | n, x :: xs, h => by
    simp only [okPs, Bool.and_eq_true] at h
    obtain ⟨a, b⟩ := okP_lay n x h.1
    obtain ⟨c, d⟩ := okPs_lay n xs h.2
    exact ⟨by simp [pyPs, PyData.canLayAll0, a, c], by simp only [pyPs, PyData.depthAll]; omega⟩
end
mutual
theorem eqP_py : ∀ (n m : Nat) (x y : P), okP n x = true → okP m y = true → PyData.eqv (pyP x) (pyP y) = eqP x y
  | n, m, .tup xs, .tup ys, h, k => by
    cases n with
    | zero => simp [okP] at h
    | succ n =>
      cases m with
      | zero => simp [okP] at k
      | succ m => simpa [pyP, PyData.eqv, eqP] using eqPs_py n m xs ys (by simpa [okP] using h) (by simpa [okP] using k)
  | n, m, .lst xs, .lst ys, h, k => by
    cases n with
    | zero => simp [okP] at h
    | succ n =>
      cases m with
      | zero => simp [okP] at k
      | succ m => simpa [pyP, PyData.eqv, eqP] using eqPs_py n m xs ys (by simpa [okP] using h) (by simpa [okP] using k)
  | n, m, .fn _, y, h, k => by cases n <;> simp [okP] at h
  | n, m, .scr _, y, h, k => by cases n <;> simp [okP] at h
  | n, m, .tk _, y, h, k => by cases n <;> simp [okP] at h
  | n, m, .ty _, y, h, k => by cases n <;> simp [okP] at h
  | n, m, x, .fn _, h, k => by cases m <;> simp [okP] at k
  | n, m, x, .scr _, h, k => by cases m <;> simp [okP] at k
  | n, m, x, .tk _, h, k => by cases m <;> simp [okP] at k
  | n, m, x, .ty _, h, k => by cases m <;> simp [okP] at k
  | _, _, .non, .non, _, _ => by simp [pyP, PyData.eqv, eqP]
  | _, _, .non, .bl _, _, _ => by simp [pyP, PyData.eqv, eqP]
  | _, _, .non, .int _, _, _ => by simp [pyP, PyData.eqv, eqP]
  | _, _, .non, .str _, _, _ => by simp [pyP, PyData.eqv, eqP]
  | _, _, .non, .tup _, _, _ => by simp [pyP, PyData.eqv, eqP]
  | _, _, .non, .lst _, _, _ => by simp [pyP, PyData.eqv, eqP]
  | _, _, .bl _, .non, _, _ => by simp [pyP, PyData.eqv, eqP]
  | _, _, .bl _, .bl _, _, _ => by simp [pyP, PyData.eqv, eqP]
  | _, _, .bl _, .int _, _, _ => by simp [pyP, PyData.eqv, eqP]
  | _, _, .bl _, .str _, _, _ => by simp [pyP, PyData.eqv, eqP]
  | _, _, .bl _, .tup _, _, _ => by simp [pyP, PyData.eqv, eqP]
  | _, _, .bl _, .lst _, _, _ => by simp [pyP, PyData.eqv, eqP]
  | _, _, .int _, .non, _, _ => by simp [pyP, PyData.eqv, eqP]
  | _, _, .int _, .bl _, _, _ => by simp [pyP, PyData.eqv, eqP]
  | _, _, .int _, .int _, _, _ => by simp [pyP, PyData.eqv, eqP]
  | _, _, .int _, .str _, _, _ => by simp [pyP, PyData.eqv, eqP]
  | _, _, .int _, .tup _, _, _ => by simp [pyP, PyData.eqv, eqP]
  | _, _, .int _, .lst _, _, _ => by simp [pyP, PyData.eqv, eqP]
  | _, _, .str _, .non, _, _ => by simp [pyP, PyData.eqv, eqP]
  | _, _, .str _, .bl _, _, _ => by simp [pyP, PyData.eqv, eqP]
  | _, _, .str _, .int _, _, _ => by simp [pyP, PyData.eqv, eqP]
  | _, _, .str _, .str _, _, _ => by simp [pyP, PyData.eqv, eqP]
  | _, _, .str _, .tup _, _, _ => by simp [pyP, PyData.eqv, eqP]
  | _, _, .str _, .lst _, _, _ => by simp [pyP, PyData.eqv, eqP]
  | _, _, .tup _, .non, _, _ => by simp [pyP, PyData.eqv, eqP]
  | _, _, .tup _, .bl _, _, _ => by simp [pyP, PyData.eqv, eqP]
  | _, _, .tup _, .int _, _, _ => by simp [pyP, PyData.eqv, eqP]
  | _, _, .tup _, .str _, _, _ => by simp [pyP, PyData.eqv, eqP]
  | _, _, .tup _, .lst _, _, _ => by simp [pyP, PyData.eqv, eqP]
  | _, _, .lst _, .non, _, _ => by simp [pyP, PyData.eqv, eqP]
  | _, _, .lst _, .bl _, _, _ => by simp [pyP, PyData.eqv, eqP]
  | _, _, .lst _, .int _, _, _ => by simp [pyP, PyData.eqv, eqP]
  | _, _, .lst _, .str _, _, _ => by simp [pyP, PyData.eqv, eqP]
  | _, _, .lst _, .tup _, _, _ => by simp [pyP, PyData.eqv, eqP]
theorem eqPs_py : ∀ (n m : Nat) (xs ys : List P), okPs n xs = true → okPs m ys = true → PyData.eqvAll (pyPs xs) (pyPs ys) = eqPs xs ys
  | _, _, [], [], _, _ => by simp [pyPs, PyData.eqvAll, eqPs]
  | _, _, [], _ :: _, _, _ => by simp [pyPs, PyData.eqvAll, eqPs]
  | _, _, _ :: _, [], _, _ => by simp [pyPs, PyData.eqvAll, eqPs]
  | n, m, x :: xs, y :: ys, h, k => by
    simp only [okPs, Bool.and_eq_true] at h k
    simp only [pyPs, PyData.eqvAll, eqPs]
    rw [eqP_py n m x y h.1 k.1, eqPs_py n m xs ys h.2 k.2]
end
theorem okP_shaped {n : Nat} {x : P} (hn : n ≤ 60) (h : okP n x = true) : SeqAt.shaped (pyP x) = true := by
  obtain ⟨a, b⟩ := okP_lay n x h
  unfold SeqAt.shaped
  rw [a, decide_eq_true (by omega)]
  rfl
def eqQ (x y : D) (S : Sto) : Option Bool := match toP S 3 x, toP S 3 y with
  | some a, some b => if okP 40 a = true ∧ okP 40 b = true then some (eqP a b) else none
  | _, _ => none
def eqD : F2 := fun x y S => match eqQ x y S with
  | some b => some (.p (.bl b), S)
  | none => none
def neD : F2 := fun x y S => match eqQ x y S with
  | some b => some (.p (.bl (!b)), S)
  | none => none
section
variable {X : Cx} {G : Gx}
theorem eqQ_ok {B ρ : List Addr} {S : Sto} {H : Hp} {x y : D} {xc yc : V} {b : Bool} (hs : Hs G B ρ S H) (rx : RV G B ρ H x xc) (ry : RV G B ρ H y yc) (e : eqQ x y S = some b) :
    ∃ d e, Dp G.K H xc d ∧ Dp G.K H yc e ∧ SeqAt.shaped d = true ∧ SeqAt.shaped e = true ∧ PyData.eqv d e = b := by
  unfold eqQ at e
  split at e
  · rename_i p q hp hq
    split at e
    · rename_i h
      cases e
      exact ⟨_, _, okP_dp 40 p h.1 (toP_ok hs 3 rx hp), okP_dp 40 q h.2 (toP_ok hs 3 ry hq), okP_shaped (by omega) h.1, okP_shaped (by omega) h.2, eqP_py 40 40 p q h.1 h.2⟩
    · cases e
  · cases e
theorem o_eq (hK : X.K = G.K) (hu : X.A.units + 64 < cLine) : OpR X (compareOp .Eq) (O2 G eqD) :=
  OpR_imp (op_eqD hu) fun xc yc H Q ⟨B, ρ, S, x, y, z, S', hs, rx, ry, e, q⟩ => by
    unfold eqD at e
    split at e
    · rename_i b hb
      cases e
      obtain ⟨d, e, h1, h2, h3, h4, h5⟩ := eqQ_ok hs rx ry hb
      rw [hK]
      exact ⟨d, e, h1, h2, h3, h4, by rw [h5]; exact q.p hs (.bl _)⟩
    · cases e
theorem o_ne (hK : X.K = G.K) (hu : X.A.units + 64 < cLine) : OpR X (compareOp .NotEq) (O2 G neD) :=
  OpR_imp (op_neD hu) fun xc yc H Q ⟨B, ρ, S, x, y, z, S', hs, rx, ry, e, q⟩ => by
    unfold neD at e
    split at e
    · rename_i b hb
      cases e
      obtain ⟨d, e, h1, h2, h3, h4, h5⟩ := eqQ_ok hs rx ry hb
      rw [hK]
      exact ⟨d, e, h1, h2, h3, h4, by rw [h5]; exact q.p hs (.bl _)⟩
    · cases e
end

/-! ### is -/
def isQ (x y : D) : Option Bool := match y with
  | .p .non => some (match x with
    | .p .non => true
    | _ => false)
  | .p (.bl b) => (match x with
    | .p (.bl a) => some (decide (a = b))
    | _ => none)
  | _ => none
def isD : F2 := fun x y S => match isQ x y with
  | some b => some (.p (.bl b), S)
  | none => none
def isNotD : F2 := fun x y S => match isQ x y with
  | some b => some (.p (.bl (!b)), S)
  | none => none
section
variable {X : Cx} {G : Gx}
theorem isQ_ok {B ρ : List Addr} {H : Hp} {x y : D} {xc yc : V} {b : Bool} (rx : RV G B ρ H x xc) (ry : RV G B ρ H y yc) (e : isQ x y = some b) : (yc = .non ∧ decide (xc = .non) = b) ∨ ∃ c d : Bool, xc = .bl c ∧ yc = .bl d ∧ decide (c = d) = b := by
  unfold isQ at e
  split at e
  · refine .inl ⟨rv_non ry, ?_⟩
    cases e
    split
    · rw [rv_non rx]
      rfl
    · rename_i hx
      refine decide_eq_false fun z => ?_
      subst z
      cases rx with
      | p r =>
        cases r
        exact hx rfl
  · split at e
    · cases e
      exact .inr ⟨_, _, rv_bl rx, rv_bl ry, rfl⟩
    · cases e
  · cases e
theorem o_is : OpR X (compareOp .Is) (O2 G isD) :=
  OpR_imp (OpR_or op_isN op_isBl) fun xc yc H Q ⟨B, ρ, S, x, y, z, S', hs, rx, ry, e, q⟩ => by
    unfold isD at e
    split at e
    · rename_i b hb
      cases e
      rcases isQ_ok rx ry hb with ⟨h1, h2⟩ | ⟨c, d, h1, h2, h3⟩
      · exact .inl ⟨h1, by rw [h2]; exact q.p hs (.bl _)⟩
      · exact .inr ⟨c, d, h1, h2, by rw [h3]; exact q.p hs (.bl _)⟩
    · cases e
theorem o_isnot : OpR X (compareOp .IsNot) (O2 G isNotD) :=
  OpR_imp (OpR_or op_notN op_notBl) fun xc yc H Q ⟨B, ρ, S, x, y, z, S', hs, rx, ry, e, q⟩ => by
    unfold isNotD at e
    split at e
    · rename_i b hb
      cases e
      rcases isQ_ok rx ry hb with ⟨h1, h2⟩ | ⟨c, d, h1, h2, h3⟩
      · exact .inl ⟨h1, by rw [h2]; exact q.p hs (.bl _)⟩
      · exact .inr ⟨c, d, h1, h2, by rw [h3]; exact q.p hs (.bl _)⟩
    · cases e
end
end Rf
end

section
set_option Elab.async false
set_option linter.all false
set_option maxRecDepth 100000
set_option maxHeartbeats 4000000
/-! Rf8: subscripts, slices, calls of what is built in, by values. -/
namespace Rf
open PySem L2

def keyP : Key → P
  | .inl i => .int i
  | .inr x => .str x
/-- what may be read by places, and unpacked -/
def seqOf (d : D) (S : Sto) : Option (List D) := match d with
  | .p (.tk ks) => some (ks.map fun k => .p (keyP k))
  | d => asSeq d S
def ixD : F2 := fun x y S => match y with
  | .p (.int i) => (match x with
    | .p (.str z) => if z.length ≤ 100000 then (match atI z.cps.toList i with
      | some c => some (.p (.str ⟨#[c]⟩), S)
      | none => none) else none
    | _ => (match seqOf x S with
      | some xs => (match atI xs i with
        | some d => some (d, S)
        | none => none)
      | none => none))
  | _ => none
section
variable {X : Cx} {G : Gx} {B ρ ρ' : List Addr} {S S' : Sto} {H H' : Hp} {x y z d : D} {v u : V} {Q : VK}
theorem rp_key {k : Key} : RP G B ρ H (keyP k) (kV k) := by
  cases k with
  | inl i => exact .int i
  | inr x => exact .str x
theorem rvs_keys : ∀ {ks : List Key}, RVs G B ρ H (ks.map fun k => D.p (keyP k)) (ks.map kV)
  | [] => .nil
  | _ :: _ => .cons (.p rp_key) rvs_keys
theorem seqOf_ok {xs : List D} (hs : Hs G B ρ S H) (r : RV G B ρ H d v) (e : seqOf d S = some xs) : ∃ p vs, v = .ref p ∧ (SqL G.K H p vs ∨ SqT G.K H p vs) ∧ RVs G B ρ H xs vs := by
  unfold seqOf at e
  split at e
  · cases e
    cases r with
    | p q =>
      cases q with
      | tk s => exact ⟨_, _, rfl, .inr (SqT.of s), rvs_keys⟩
  · exact asSeq_ok hs r e
theorem RVs.atI : ∀ {ds : List D} {vs : List V} {i : Int} {d : D}, RVs G B ρ H ds vs → L2.atI ds i = some d → ∃ v, L2.atI vs i = some v ∧ RV G B ρ H d v := fun {ds vs i d} r e => by
  unfold L2.atI at e ⊢
  rw [← r.length]
  cases q : ixN ds.length i with
  | none => rw [q] at e; cases e
  | some j =>
    rw [q] at e
    exact r.get e
theorem ix_D (hK : X.K = G.K) : IxR X (O2 G ixD) := IxR_imp ix_seq fun xc yc H Q ⟨B, ρ, S, x, y, z, S', hs, rx, ry, e, q⟩ => by
  unfold ixD at e
  split at e
  · split at e
    · split at e
      · rename_i hz
        split at e
        · rename_i c hc
          cases e
          exact .inr (.inr ⟨_, _, c, rv_str rx, rv_int ry, sz_ok hz, hc, q.p hs (.str _)⟩)
        · cases e
      · cases e
    · split at e
      · rename_i xs hx
        split at e
        · rename_i d hd
          cases e
          obtain ⟨p, vs, rfl, sq, rs⟩ := seqOf_ok hs rx hx
          obtain ⟨w, h1, h2⟩ := rs.atI hd
          rw [hK]
          rcases sq with sq | sq
          · exact .inl ⟨p, vs, _, w, rfl, rv_int ry, sq, h1, q.here hs h2⟩
          · exact .inr (.inl ⟨p, vs, _, w, rfl, rv_int ry, sq, h1, q.here hs h2⟩)
        · cases e
      · cases e
  · cases e
end

/-! ### slices -/
abbrev MO := Slots → Sto → Option (Option Int × Sto)
def RdO (G : Gx) (m : MO) : TO := fun σc H Q => ∃ B ρ S σ o S', Hs G B ρ S H ∧ Sl G B ρ H σ σc ∧ m σ S = some (o, S') ∧ ∀ ρ' H', Fr ρ H ρ' H' → Hs G B ρ' S' H' → Q o H'
def oNo : MO := fun _ S => some (none, S)
def oPart (m : ME) : MO := fun σ S => match m σ S with
  | some (.p (.int i), S1) => some (some i, S1)
  | _ => none
def cutD (xs : List D) (lo hi : Option Int) : List D := (xs.drop (HT.sIx xs.length 0 lo)).take (HT.sIx xs.length xs.length hi - HT.sIx xs.length 0 lo)
def slD (x : D) (lo hi : Option Int) (S : Sto) : Option (D × Sto) := match x with
  | .p (.str z) => if z.length ≤ 100000 then some (.p (.str (cutS z lo hi)), S) else none
  | x => match asTup x with
    | some xs => some (tupOf (cutD xs lo hi), S)
    | none => match asLst x S with
      | some xs => some (lstOf (cutD xs lo hi), S)
      | none => none
def mSl (f : D → Option Int → Option Int → Sto → Option (D × Sto)) (m : ME) (ml mh : MO) : ME := fun σ S => match m σ S with
  | none => none
  | some (x, S1) => match ml σ S1 with
    | none => none
    | some (lo, S2) => match mh σ S2 with
      | none => none
      | some (hi, S3) => f x lo hi S3
section
variable {X : Cx} {G : Gx} {B ρ ρ' : List Addr} {S S' : Sto} {H H' : Hp} {x y z d : D} {v u : V} {Q : VK} {e : Expr} {m : ME} {ml mh : MO} {lo hi : Option Expr} {pos p2 : Pos}
theorem PO_imp {e : Option Expr} {t t' : TO} (h : PO X e t) (k : ∀ σ H Q, t' σ H Q → t σ H Q) : PO X e t' := ⟨fun pins s σ H Q I q => h.run pins s σ H Q I (k σ H Q q)⟩
theorem o_no : PO X none (RdO G oNo) := PO_imp po_none fun σc H Q ⟨B, ρ, S, σ, o, S', hs, sl, e, k⟩ => by
  cases e
  exact k ρ H Fr.refl hs
theorem o_part (h : PE X e (RdE G m)) : PO X (some e) (RdO G (oPart m)) := PO_imp (po_some h) fun σc H Q ⟨B, ρ, S, σ, o, S', hs, sl, e, k⟩ => by
  unfold oPart at e
  split at e
  · rename_i i S1 he
    cases e
    exact ⟨B, ρ, S, σ, _, _, hs, sl, he, fun ρ1 vc H1 f hs1 r => ⟨i, rv_int r, k ρ1 H1 f hs1⟩⟩
  · cases e
theorem RVs.cut {ds : List D} {vs : List V} (r : RVs G B ρ H ds vs) (lo hi : Option Int) : RVs G B ρ H (cutD ds lo hi) (cutV vs lo hi) := by
  unfold cutD cutV
  rw [r.length]
  exact (r.drop _).take _
theorem cut_whole {ds : List D} {lo hi : Option Int} (h : HT.sIx ds.length 0 lo = 0 ∧ HT.sIx ds.length ds.length hi = ds.length) : cutD ds lo hi = ds := by
  unfold cutD
  rw [h.1, h.2, List.drop_zero, Nat.sub_zero, List.take_length]
theorem SlR_imp {r r' : V → Option Int → Option Int → Hp → VK → Prop} (h : SlR X r) (k : ∀ x lo hi H Q, r' x lo hi H Q → r x lo hi H Q) : SlR X r' := fun pins s σ H x v vl vu lo hi sl Q I rx hs pl pu q => h pins s σ H x v vl vu lo hi sl Q I rx hs pl pu (k x lo hi H Q q)
theorem sl_D (hK : X.K = G.K) : SlR X (fun xc lo hi H Q => ∃ B ρ S x z S', Hs G B ρ S H ∧ RV G B ρ H x xc ∧ slD x lo hi S = some (z, S') ∧ Po G B ρ H z S' Q) :=
  SlR_imp (SlR.or sl_list (SlR.or sl_tupF sl_str)) fun xc lo hi H Q ⟨B, ρ, S, x, z, S', hs, rx, e, q⟩ => by
    unfold slD at e
    split at e
    · split at e
      · rename_i hz
        cases e
        exact .inr (.inr ⟨_, rv_str rx, sz_ok hz, q.p hs (.str _)⟩)
      · cases e
    · split at e
      · rename_i xs hx
        cases e
        obtain ⟨a, vs, rfl, sq, rs⟩ := asTup_ok hx rx
        refine .inr (.inl ⟨a, vs, rfl, by rw [hK]; exact sq, fun h => ?_, fun _ => q.newT hs (rs.cut lo hi)⟩)
        rw [← rs.length] at h
        rw [cut_whole h] at q
        exact q.here hs (asTup_back rx hx)
      · split at e
        · rename_i xs hx
          cases e
          obtain ⟨p, vs, rfl, h1, rs⟩ := asLst_ok hs rx hx
          exact .inl ⟨p, vs, rfl, SqL.of h1, fun l hl => q.newL hs (rs.cut lo hi) hl⟩
        · cases e
theorem e_slice (hK : X.K = G.K) (he : PE X e (RdE G m)) (hl : PO X lo (RdO G ml)) (hu : PO X hi (RdO G mh)) : PE X (.Subscript e (.Slice lo hi none p2) pos) (RdE G (mSl slD m ml mh)) :=
  PE_imp (pe_slice (sl_D hK) he hl hu) fun σc H Q ⟨B, ρ, S, σ, v, S', hs, sl, e, k⟩ => by
    unfold mSl at e
    cases ea : m σ S with
    | none => rw [ea] at e; cases e
    | some p =>
      obtain ⟨x, S1⟩ := p
      simp only [ea] at e
      cases eb : ml σ S1 with
      | none => simp only [eb] at e; cases e
      | some p =>
        obtain ⟨a, S2⟩ := p
        simp only [eb] at e
        cases ec : mh σ S2 with
        | none => simp only [ec] at e; cases e
        | some p =>
          obtain ⟨b, S3⟩ := p
          simp only [ec] at e
          exact ⟨B, ρ, S, σ, x, S1, hs, sl, ea, fun ρ1 xc H1 f1 hs1 r1 => ⟨B, ρ1, S1, σ, a, S2, hs1, sl.mono f1 hs, eb, fun ρ2 H2 f2 hs2 => ⟨B, ρ2, S2, σ, b, S3, hs2, (sl.mono f1 hs).mono f2 hs1, ec, fun ρ3 H3 f3 hs3 =>
            ⟨B, ρ3, S3, x, v, S', hs3, (r1.mono f2 hs1).mono f3 hs2, e, Po.step ((f1.trans f2).trans f3) k⟩⟩⟩⟩
end
/-- xs[::-1] of a list -/
def revD : F1 := fun x S => match asLst x S with
  | some xs => some (lstOf xs.reverse, S)
  | none => match x with
    | .p (.scr _) => none
    | _ => none
section
variable {X : Cx} {G : Gx} {e : Expr} {m : ME}
theorem e_rev (hK : X.K = G.K) {k : Nat} {p1 p2 p3 pos : Pos} (he : PE X e (RdE G m)) : PE X (.Subscript e (.Slice none none (some (.UnaryOp .USub (.Constant (.int 1) k p1) p2)) p3) pos) (RdE G (mUn revD m)) :=
  PE_imp (pe_revL he) fun σc H Q ⟨B, ρ, S, σ, v, S', hs, sl, e, k⟩ => by
    unfold mUn at e
    cases ea : m σ S with
    | none => rw [ea] at e; cases e
    | some p =>
      obtain ⟨x, S1⟩ := p
      simp only [ea] at e
      refine ⟨B, ρ, S, σ, x, S1, hs, sl, ea, fun ρ1 xc H1 f hs1 r => ?_⟩
      unfold revD at e
      split at e
      · rename_i xs hx
        cases e
        obtain ⟨p, vs, rfl, h1, rs⟩ := asLst_ok hs1 r hx
        exact ⟨p, vs, rfl, SqL.of h1, fun l hl => (Po.step f k).newL hs1 rs.reverse hl⟩
      · split at e <;> cases e
end

/-! ### calls -/
abbrev FL := List D → Sto → Option (D × Sto)
abbrev FM := D → List D → Sto → Option (D × Sto)
def mCal (f : FL) (a : MA) : ME := fun σ S => match a σ S with
  | none => none
  | some (xs, S1) => f xs S1
section
variable {X : Cx} {G : Gx} {e : Expr} {es : List Expr} {ma : MA} {f : FL} {id T : String} {x : Str} {p pos : Pos}
theorem CallR_imp {f : Value} {r r' : List V → Hp → VK → Prop} (h : CallR X f r) (k : ∀ x H Q, r' x H Q → r x H Q) : CallR X f r' := fun pins s σ H xs us Q I r q => h pins s σ H xs us Q I r (k xs H Q q)
theorem MtR_imp {id : String} {r r' : V → List V → Hp → VK → Prop} (h : MtR X id r) (k : ∀ x y H Q, r' x y H Q → r x y H Q) : MtR X id r' := fun pins s σ H x xs v us Q I rx rs q => h pins s σ H x xs v us Q I rx rs (k x xs H Q q)
theorem RdE_cal {σc : L2.St} {H : Hp} {Q : VK} (h : RdE G (mCal f ma) σc H Q) : tCB (OL G f) (RdA G ma) σc H Q := by
  obtain ⟨B, ρ, S, σ, v, S', hs, sl, e, k⟩ := h
  unfold mCal at e
  cases ea : ma σ S with
  | none => rw [ea] at e; cases e
  | some p =>
    obtain ⟨xs, S1⟩ := p
    simp only [ea] at e
    exact ⟨B, ρ, S, σ, xs, S1, hs, sl, ea, fun ρ1 vs H1 fr hs1 rx => ⟨B, ρ1, S1, xs, v, S', hs1, rx, e, Po.step fr k⟩⟩
theorem e_callB (hc : CallR X (.builtin id) (OL G f)) (hg : Gl X x) (hm : X.mg x = none) (hv : bootBuiltins x = some (.builtin id)) (ha : PA X (e :: es) (RdA G ma)) (hn : x ≠ "__name__" := by decide) (hdb : (x == ("__debug__" : Str)) = false := by decide)
    (he : starEach (e :: es) X.env = (false, eval e X.env) :: starEach es X.env := by rfl) (hpl : (backTo pos (starEach es X.env)).any (·.1) = false := by rfl) : PE X (.Call (.Name x p) (e :: es) [] pos) (RdE G (mCal f ma)) :=
  PE_imp (pe_callB hc hg hm hv ha hn hdb he hpl) fun _ _ _ h => RdE_cal h
theorem e_callTy (hc : CallR X (.type T) (OL G f)) (hg : Gl X x) (hm : X.mg x = none) (hv : bootBuiltins x = some (.type T)) (ha : PA X (e :: es) (RdA G ma)) (hn : x ≠ "__name__" := by decide) (hdb : (x == ("__debug__" : Str)) = false := by decide)
    (he : starEach (e :: es) X.env = (false, eval e X.env) :: starEach es X.env := by rfl) (hpl : (backTo pos (starEach es X.env)).any (·.1) = false := by rfl) : PE X (.Call (.Name x p) (e :: es) [] pos) (RdE G (mCal f ma)) :=
  PE_imp (pe_callTy hc hg hm hv ha hn hdb he hpl) fun _ _ _ h => RdE_cal h
end
/-- the receiver's kind -/
def tyD (T : String) (x : D) (S : Sto) : Bool := match x with
  | .p (.str _) => T == "str"
  | .p (.lst _) => T == "list"
  | .mxl _ => T == "list"
  | .loc n => (match S[n]? with
    | some (.lst _) => T == "list"
    | some (.dk _) => T == "dict"
    | some (.dt _) => T == "dict"
    | _ => false)
  | _ => false
def mMt (T : String) (f : FM) (o : ME) (a : MA) : ME := fun σ S => match o σ S with
  | none => none
  | some (x, S1) => match tyD T x S1 with
    | false => none
    | true => match a σ S1 with
      | none => none
      | some (xs, S2) => f x xs S2
section
variable {X : Cx} {G : Gx} {B ρ : List Addr} {S : Sto} {H : Hp} {x : D} {v : V} {o e : Expr} {es : List Expr} {mo : ME} {ma : MA} {f : FM} {id T : String} {name : Str} {apos cpos : Pos}
theorem tyD_ok {K : PySem.W.Frag} (hs : Hs G B ρ S H) (r : RV G B ρ H x v) (h : tyD T x S = true) : tyV K T v H := by
  unfold tyD at h
  split at h
  · rw [rv_str r]
    exact eq_of_beq h
  · cases r with
    | p r =>
      cases r with
      | lst s _ _ _ => exact .inl ⟨eq_of_beq h, _, SqL.of s⟩
  · cases r with
    | mxl s _ _ _ => exact .inl ⟨eq_of_beq h, _, SqL.of s⟩
  · split at h
    · rename_i hn
      obtain ⟨a, rfl, _, vs, e, _⟩ := hs.at_loc r hn
      exact .inl ⟨eq_of_beq h, _, SqL.of e⟩
    · rename_i hn
      obtain ⟨a, rfl, _, vs, e, _⟩ := hs.at_loc r hn
      exact .inr (.inr (.inl ⟨eq_of_beq h, .inl ⟨_, e⟩⟩))
    · rename_i hn
      obtain ⟨a, rfl, _, vs, e, _⟩ := hs.at_loc r hn
      exact .inr (.inr (.inl ⟨eq_of_beq h, .inr ⟨_, e⟩⟩))
    · cases h
  · cases h
theorem RdE_mt {K : PySem.W.Frag} {σc : L2.St} {H : Hp} {Q : VK} (h : RdE G (mMt T f mo ma) σc H Q) : RdE G mo σc H fun x H1 => tyV K T x H1 ∧ RdA G ma σc H1 fun xs H2 => OM G f x xs H2 Q := by
  obtain ⟨B, ρ, S, σ, v, S', hs, sl, e, k⟩ := h
  unfold mMt at e
  cases ea : mo σ S with
  | none => rw [ea] at e; cases e
  | some p =>
    obtain ⟨x, S1⟩ := p
    simp only [ea] at e
    cases et : tyD T x S1 with
    | false => rw [et] at e; cases e
    | true =>
      simp only [et] at e
      cases eb : ma σ S1 with
      | none => rw [eb] at e; cases e
      | some p =>
        obtain ⟨xs, S2⟩ := p
        simp only [eb] at e
        exact ⟨B, ρ, S, σ, x, S1, hs, sl, ea, fun ρ1 xc H1 f1 hs1 r1 => ⟨tyD_ok hs1 r1 et, B, ρ1, S1, σ, xs, S2, hs1, sl.mono f1 hs, eb, fun ρ2 vs H2 f2 hs2 r2 => ⟨B, ρ2, S2, x, xs, v, S', hs2, r1.mono f2 hs1, r2, e, Po.step (f1.trans f2) k⟩⟩⟩
theorem e_mt0 (pa : PlainAttrs T) (slot : Slot T name id) (hty : typeOf (.builtin id) = pure (.type "method_descriptor")) (hm : MtR X id (OM G f)) (ho : PE X o (RdE G mo))
    (hbase : attributeBase o name X.env (eval o X.env) = eval o X.env := by rfl) (hline : (apos.endLine == cpos.line) = true := by rfl) : PE X (.Call (.Attribute o name apos) [] [] cpos) (RdE G (mMt T f mo mNil)) :=
  PE_imp (pe_bm0 pa slot hty hm ho hbase hline) fun σc H Q h => by
    obtain ⟨B, ρ, S, σ, x, S1, hs, sl, ea, k⟩ := RdE_mt (K := X.K) h
    refine ⟨B, ρ, S, σ, x, S1, hs, sl, ea, fun ρ1 xc H1 f1 hs1 r1 => ?_⟩
    obtain ⟨h1, B2, ρ2, S2, σ2, xs, S3, hs2, sl2, e2, k2⟩ := k ρ1 xc H1 f1 hs1 r1
    cases e2
    exact ⟨h1, k2 ρ2 [] H1 Fr.refl hs2 .nil⟩
theorem e_mt (pa : PlainAttrs T) (slot : Slot T name id) (hty : typeOf (.builtin id) = pure (.type "method_descriptor")) (hm : MtR X id (OM G f)) (ho : PE X o (RdE G mo)) (ha : PA X (e :: es) (RdA G ma))
    (hbase : attributeBase o name X.env (eval o X.env) = eval o X.env := by rfl)
    (hfew : ((backTo cpos (starEach (e :: es) X.env)).all (fun x => !x.1) && (backToKw cpos (keywordEach [] X.env)).all (fun x => x.1.isSome)
      && decide ((e :: es).length + ([] : List Keyword).length + (if ([] : List Keyword).isEmpty then 0 else 1) < 30)) = true := by rfl)
    (hline : (apos.endLine == cpos.line) = true := by rfl) (hs : starEach (e :: es) X.env = (false, eval e X.env) :: starEach es X.env := by rfl) (hplain : (backTo cpos (starEach es X.env)).any (·.1) = false := by rfl) :
    PE X (.Call (.Attribute o name apos) (e :: es) [] cpos) (RdE G (mMt T f mo ma)) :=
  PE_imp (pe_bm pa slot hty hm ho ha hbase hfew hline hs hplain) fun σc H Q h => RdE_mt h
/-- never reached -/
def mNever : ME := fun _ _ => none
end
end Rf
end

section
set_option Elab.async false
set_option linter.all false
set_option maxRecDepth 100000
set_option maxHeartbeats 4000000
/-! Rf9: what is built in, by values: isinstance, len, abs, min, max, int, str, all, any, sum, tuple, list, sorted; append, pop, index. -/
namespace Rf
open PySem L2

/-! ### isinstance -/
def kindD (x : D) (S : Sto) : Option String := match x with
  | .p .non => some "NoneType"
  | .p (.bl _) => some "bool"
  | .p (.int _) => some "int"
  | .p (.str _) => some "str"
  | .p (.tup _) => some "tuple"
  | .p (.tk _) => some "tuple"
  | .mix _ => some "tuple"
  | .p (.lst _) => some "list"
  | .p (.scr _) => some "list"
  | .mxl _ => some "list"
  | .loc n => (match S[n]? with
    | some (.lst _) => some "list"
    | some (.dk _) => some "dict"
    | some (.dt _) => some "dict"
    | some (.fk _) => some "dict"
    | _ => none)
  | _ => none
def kinds : List String := ["NoneType", "bool", "int", "str", "tuple", "list", "dict"]
def isKind (a b : String) : Bool := a == b || (a == "bool" && b == "int")
def isiL : FL := fun xs S => match xs with
  | [x, .p (.ty T)] => (match kindD x S with
    | some t => if t ∈ kinds ∧ T ∈ kinds.tail then some (.p (.bl (isKind t T)), S) else none
    | none => none)
  | _ => none
theorem kinds_ok : ∀ t ∈ kinds, ∀ T ∈ kinds.tail, kitB t T = some (isKind t T) := by decide +kernel
section
variable {X : Cx} {G : Gx} {B ρ : List Addr} {S S' : Sto} {H : Hp} {x y d : D} {v : V}
theorem e_ty {x : Str} {T : String} {pos : Pos} (hg : Gl X x) (hm : X.mg x = none) (hv : bootBuiltins x = some (.type T)) (hn : x ≠ "__name__" := by decide) (hd : (x == ("__debug__" : Str)) = false := by decide) : PE X (.Name x pos) (RdE G (mC (.ty T))) :=
  PE_c (pe_bltn (v := .ty T) hg hm hv (show RelV (.ty T) (.type T) from rfl) hn hd) fun _ _ _ => .ty _
theorem rvs1' {xs : List D} {vs : List V} {x : D} (r : RVs G B ρ H [x] vs) : ∃ v, vs = [v] ∧ RV G B ρ H x v := by
  cases r with
  | cons r t => cases t; exact ⟨_, rfl, r⟩
theorem rvs2' {vs : List V} {x y : D} (r : RVs G B ρ H [x, y] vs) : ∃ v w, vs = [v, w] ∧ RV G B ρ H x v ∧ RV G B ρ H y w := by
  cases r with
  | cons r t =>
    cases t with
    | cons q t => cases t; exact ⟨_, _, rfl, r, q⟩
theorem rv_ty {T : String} (r : RV G B ρ H (.p (.ty T)) v) : v = .ty T := by
  cases r with
  | p r => cases r; rfl
theorem Tp.ty {K : PySem.W.Frag} {p : Addr} {xs : List P} {vs : List V} (s : Tp K H p xs vs) : TyX K H (.ref p) (.type "tuple") := by
  rcases s with ⟨o, _, s⟩ | ⟨_, o, its, n, e, c, _⟩
  · exact .fTuple s
  · exact .kTuple e c
theorem kindD_ok {t : String} (hs : Hs G B ρ S H) (r : RV G B ρ H x v) (e : kindD x S = some t) : TyX G.K H v (.type t) := by
  cases r with
  | p q =>
    cases q with
    | non => cases e; exact .base .non
    | bl b => cases e; exact .base (.bl b)
    | int i => cases e; exact .base (.int i)
    | str z => cases e; exact .base (.str z)
    | fn i => cases e
    | tup s t => cases e; exact s.ty
    | lst s _ _ _ => cases e; exact .base (.lst s)
    | scr s =>
      cases e
      rcases s with ⟨o, s⟩ | ⟨o, its, n, h, c, _⟩
      · exact .base (.frz s)
      · exact .kList h c
    | ty n => cases e
    | tk s => cases e; exact .base (.tup s)
  | @loc n a h =>
    cases hw : S[n]? with
    | none => simp [kindD, hw] at e
    | some w =>
      have q := hs.obj _ _ _ h hw
      cases w with
      | lst xs =>
        simp [kindD, hw] at e
        subst e
        obtain ⟨vs, e1, _⟩ := q
        exact .base (.lst e1)
      | dk xs =>
        simp [kindD, hw] at e
        subst e
        obtain ⟨vs, e1, _⟩ := q
        exact .base (.dK e1)
      | dt xs =>
        simp [kindD, hw] at e
        subst e
        obtain ⟨vs, e1, _⟩ := q
        exact .base (.dT e1)
      | fk xs =>
        simp [kindD, hw] at e
        subst e
        obtain ⟨o, vs, e1, _⟩ := q
        exact .fDict e1
      | ft xs => simp [kindD, hw] at e
      | ins c xs => simp [kindD, hw] at e
  | mix s t => cases e; obtain ⟨o, _, s⟩ := s; exact .fTuple s
  | mxl s _ _ _ => cases e; exact .base (.lst s)
theorem c_isi (hK : X.K = G.K) : CallR X (.builtin "isinstance") (OL G isiL) := CallR_imp call_isi fun xc H Q ⟨B, ρ, S, xs, z, S', hs, rx, e, q⟩ => by
  unfold isiL at e
  split at e
  · rename_i x T
    split at e
    · rename_i t ht
      split at e
      · rename_i hk
        cases e
        obtain ⟨v, w, rfl, r1, r2⟩ := rvs2' rx
        rw [rv_ty r2, hK]
        exact ⟨v, .ty T, _, _, isKind t T, rfl, .ty T, kindD_ok hs r1 ht, kit_ty (kinds_ok t hk.1 T hk.2), q.p hs (.bl _)⟩
      · cases e
    · cases e
  · cases e
end

/-! ### len -/
def lenL : FL := fun xs S => match xs with
  | [.p (.str z)] => if z.length ≤ 100000 then some (.p (.int z.length), S) else none
  | [.loc n] => (match S[n]? with
    | some (.lst xs) => some (.p (.int xs.length), S)
    | some (.dk xs) => some (.p (.int xs.length), S)
    | some (.dt xs) => some (.p (.int xs.length), S)
    | _ => none)
  | [d] => (match seqOf d S with
    | some xs => some (.p (.int xs.length), S)
    | none => none)
  | _ => none
def int1 (f : Int → Int) : FL := fun xs S => match xs with
  | [.p (.int i)] => some (.p (.int (f i)), S)
  | _ => none
def int2 (f : Int → Int → Int) : FL := fun xs S => match xs with
  | [.p (.int i), .p (.int j)] => some (.p (.int (f i j)), S)
  | _ => none
def absL : FL := int1 fun i => if i < 0 then -i else i
def maxL2 : FL := int2 fun i j => if j > i then j else i
def minL2 : FL := int2 fun i j => if j < i then j else i
def intL : FL := fun xs S => match xs with
  | [.p (.int i)] => some (.p (.int i), S)
  | [.p (.bl b)] => some (.p (.int (if b then 1 else 0)), S)
  | _ => none
def strL : FL := fun xs S => match xs with
  | [.p (.int i)] => if i.natAbs.log2 < 1920 then some (.p (.str (toString i)), S) else none
  | _ => none
def blsD : List D → Option (List Bool)
  | [] => some []
  | .p (.bl b) :: r => (match blsD r with
    | some bs => some (b :: bs)
    | none => none)
  | _ :: _ => none
def intsD : List D → Option (List Int)
  | [] => some []
  | .p (.int b) :: r => (match intsD r with
    | some bs => some (b :: bs)
    | none => none)
  | _ :: _ => none
def onBls (f : List Bool → Bool) : FL := fun xs S => match xs with
  | [x] => (match asLst x S with
    | some ds => (match blsD ds with
      | some bs => some (.p (.bl (f bs)), S)
      | none => none)
    | none => none)
  | _ => none
def allL : FL := onBls fun bs => bs.all id
def anyL : FL := onBls fun bs => bs.any id
def sumL : FL := fun xs S => match xs with
  | [x] => (match asLst x S with
    | some ds => (match intsD ds with
      | some is => some (.p (.int is.sum), S)
      | none => none)
    | none => none)
  | _ => none
/-- the insertion sort -/
def insI (i : Int) : List Int → List Int
  | [] => [i]
  | j :: r => if i ≤ j then i :: j :: r else j :: insI i r
def sortI : List Int → List Int
  | [] => []
  | i :: r => insI i (sortI r)
def sortIL : FL := fun xs S => match xs with
  | [x] => (match asLst x S with
    | some ds => (match intsD ds with
      | some is => some (.p (.lst ((sortI is).map .int)), S)
      | none => none)
    | none => none)
  | _ => none
def tupleL : FL := fun xs S => match xs with
  | [x] => (match asTup x with
    | some _ => some (x, S)
    | none => (match asLst x S with
      | some ds => some (tupOf ds, S)
      | none => none))
  | _ => none
/-- list(xs): a new list, that does not | does change later -/
def listL : FL := fun xs S => match xs with
  | [x] => (match asSeq x S with
    | some ds => some (lstOf ds, S)
    | none => none)
  | _ => none
def listN : FL := fun xs S => match xs with
  | [x] => (match asSeq x S with
    | some ds => some (.loc S.length, S ++ [.lst ds])
    | none => none)
  | _ => none
section
variable {X : Cx} {G : Gx} {B ρ : List Addr} {S S' : Sto} {H : Hp} {x y d : D} {v : V}
theorem c_len (hK : X.K = G.K) : CallR X (.builtin "len") (OL G lenL) := CallR_imp (CallR.or call_len_seq (CallR.or call_len_str (CallR.or call_lenD call_len_dT))) fun xc H Q ⟨B, ρ, S, xs, z, S', hs, rx, e, q⟩ => by
  unfold lenL at e
  split at e
  · rename_i z
    split at e
    · rename_i hz
      cases e
      obtain ⟨v, rfl, r⟩ := rvs1 rx
      rw [rv_str r]
      exact .inr (.inl ⟨z, rfl, sz_ok hz, q.p hs (.int _)⟩)
    · cases e
  · rename_i n
    obtain ⟨v, rfl, r⟩ := rvs1 rx
    split at e
    · rename_i ds hn
      cases e
      obtain ⟨a, rfl, _, vs, e1, t⟩ := hs.at_loc r hn
      exact .inl ⟨a, vs, rfl, .inl (SqL.of e1), by rw [← t.length]; exact q.p hs (.int _)⟩
    · rename_i ds hn
      cases e
      obtain ⟨a, rfl, _, vs, e1, t⟩ := hs.at_loc r hn
      exact .inr (.inr (.inl ⟨a, vs, rfl, e1, by rw [← t.length]; exact q.p hs (.int _)⟩))
    · rename_i ds hn
      cases e
      obtain ⟨a, rfl, _, vs, e1, t⟩ := hs.at_loc r hn
      exact .inr (.inr (.inr ⟨a, vs, rfl, e1, by rw [← t.length]; exact q.p hs (.int _)⟩))
    · cases e
  · split at e
    · rename_i ds hd
      cases e
      obtain ⟨v, rfl, r⟩ := rvs1 rx
      obtain ⟨p, vs, rfl, sq, rs⟩ := seqOf_ok hs r hd
      rw [← hK] at sq
      exact .inl ⟨p, vs, rfl, sq, by rw [← rs.length]; exact q.p hs (.int _)⟩
    · cases e
  · cases e
theorem c_int1 {f : Value} {g : Int → Int} (h : CallR X f fun xs H Q => ∃ i, xs = [.int i] ∧ Q (.int (g i)) H) : CallR X f (OL G (int1 g)) := CallR_imp h fun xc H Q ⟨B, ρ, S, xs, z, S', hs, rx, e, q⟩ => by
  unfold int1 at e
  split at e
  · cases e
    obtain ⟨v, rfl, r⟩ := rvs1 rx
    rw [rv_int r]
    exact ⟨_, rfl, q.p hs (.int _)⟩
  · cases e
theorem c_int2 {f : Value} {g : Int → Int → Int} (h : CallR X f fun xs H Q => ∃ i j, xs = [.int i, .int j] ∧ Q (.int (g i j)) H) : CallR X f (OL G (int2 g)) := CallR_imp h fun xc H Q ⟨B, ρ, S, xs, z, S', hs, rx, e, q⟩ => by
  unfold int2 at e
  split at e
  · cases e
    obtain ⟨v, w, rfl, r1, r2⟩ := rvs2 rx
    rw [rv_int r1, rv_int r2]
    exact ⟨_, _, rfl, q.p hs (.int _)⟩
  · cases e
theorem c_abs : CallR X (.builtin "abs") (OL G absL) := c_int1 call_abs
theorem c_max2 (hc : X.calm = true) : CallR X (.builtin "max") (OL G maxL2) := c_int2 (call_max2 hc)
theorem c_min2 (hc : X.calm = true) : CallR X (.builtin "min") (OL G minL2) := c_int2 (call_min2 hc)
theorem c_int : CallR X (.type "int") (OL G intL) := CallR_imp call_int1 fun xc H Q ⟨B, ρ, S, xs, z, S', hs, rx, e, q⟩ => by
  unfold intL at e
  split at e
  · cases e
    obtain ⟨v, rfl, r⟩ := rvs1 rx
    rw [rv_int r]
    exact .inl ⟨_, rfl, q.p hs (.int _)⟩
  · cases e
    obtain ⟨v, rfl, r⟩ := rvs1 rx
    rw [rv_bl r]
    exact .inr ⟨_, rfl, q.p hs (.int _)⟩
  · cases e
theorem c_str : CallR X (.type "str") (OL G strL) := CallR_imp call_str_int fun xc H Q ⟨B, ρ, S, xs, z, S', hs, rx, e, q⟩ => by
  unfold strL at e
  split at e
  · split at e
    · rename_i hz
      cases e
      obtain ⟨v, rfl, r⟩ := rvs1 rx
      rw [rv_int r]
      exact ⟨_, rfl, hz, q.p hs (.str _)⟩
    · cases e
  · cases e
theorem blsD_ok : ∀ {ds : List D} {bs : List Bool} {vs : List V}, blsD ds = some bs → RVs G B ρ H ds vs → vs = bs.map V.bl
  | [], bs, [], e, .nil => by cases e; rfl
  | d :: ds, bs, v :: vs, e, .cons r t => by
    unfold blsD at e
    split at e
    · rename_i h
      cases h
    · rename_i b ds' h
      cases h
      split at e
      · rename_i cs hc
        cases e
        rw [rv_bl r, blsD_ok hc t]
        rfl
      · cases e
    · cases e
theorem intsD_ok : ∀ {ds : List D} {bs : List Int} {vs : List V}, intsD ds = some bs → RVs G B ρ H ds vs → vs = bs.map V.int
  | [], bs, [], e, .nil => by cases e; rfl
  | d :: ds, bs, v :: vs, e, .cons r t => by
    unfold intsD at e
    split at e
    · rename_i h
      cases h
    · rename_i b ds' h
      cases h
      split at e
      · rename_i cs hc
        cases e
        rw [rv_int r, intsD_ok hc t]
        rfl
      · cases e
    · cases e
theorem c_bls {f : Value} {g : List Bool → Bool} (h : CallR X f fun vs H Q => ∃ (a : Addr) (bs : List Bool), vs = [V.ref a] ∧ SqL X.K H a (bs.map V.bl) ∧ Q (.bl (g bs)) H) : CallR X f (OL G (onBls g)) := CallR_imp h fun xc H Q ⟨B, ρ, S, xs, z, S', hs, rx, e, q⟩ => by
  unfold onBls at e
  split at e
  · split at e
    · rename_i ds hd
      split at e
      · rename_i bs hb
        cases e
        obtain ⟨v, rfl, r⟩ := rvs1 rx
        obtain ⟨p, vs, rfl, h1, t⟩ := asLst_ok hs r hd
        have ev := blsD_ok hb t
        subst ev
        exact ⟨p, bs, rfl, SqL.of h1, q.p hs (.bl _)⟩
      · cases e
    · cases e
  · cases e
theorem c_all (hc : X.calm = true) : CallR X (.builtin "all") (OL G allL) := c_bls (cr_all hc)
theorem c_any (hc : X.calm = true) : CallR X (.builtin "any") (OL G anyL) := c_bls (cr_any hc)
theorem c_sum (hc : X.calm = true) : CallR X (.builtin "sum") (OL G sumL) := CallR_imp (cr_sum hc) fun xc H Q ⟨B, ρ, S, xs, z, S', hs, rx, e, q⟩ => by
  unfold sumL at e
  split at e
  · split at e
    · rename_i ds hd
      split at e
      · rename_i bs hb
        cases e
        obtain ⟨v, rfl, r⟩ := rvs1 rx
        obtain ⟨p, vs, rfl, h1, t⟩ := asLst_ok hs r hd
        have ev := intsD_ok hb t
        subst ev
        exact ⟨p, bs, rfl, SqL.of h1, q.p hs (.int _)⟩
      · cases e
    · cases e
  · cases e
theorem insI_perm (i : Int) : ∀ l : List Int, (insI i l).Perm (i :: l)
  | [] => .refl _
  | j :: r => by
    unfold insI
    split
    · exact .refl _
    · exact (List.Perm.cons j (insI_perm i r)).trans (.swap i j r)
theorem insI_srt (i : Int) : ∀ {l : List Int}, l.Pairwise (· ≤ ·) → (insI i l).Pairwise (· ≤ ·)
  | [], _ => by simp [insI]
  | j :: r, h => by
    unfold insI
    split
    · rename_i hij
      refine List.pairwise_cons.mpr ⟨fun k hk => ?_, h⟩
      rcases List.mem_cons.mp hk with z | z
      · rw [z]; exact hij
      · exact Int.le_trans hij ((List.pairwise_cons.mp h).1 k z)
    · rename_i hij
      refine List.pairwise_cons.mpr ⟨fun k hk => ?_, insI_srt i (List.pairwise_cons.mp h).2⟩
      rcases List.mem_cons.mp ((insI_perm i r).mem_iff.mp hk) with z | z
      · rw [z]; omega
      · exact (List.pairwise_cons.mp h).1 k z
theorem sortI_perm : ∀ l : List Int, (sortI l).Perm l
  | [] => .refl _
  | i :: r => (insI_perm i (sortI r)).trans (.cons i (sortI_perm r))
theorem sortI_srt : ∀ l : List Int, (sortI l).Pairwise (· ≤ ·)
  | [] => .nil
  | i :: r => insI_srt i (sortI_srt r)
theorem sortI_one {l l' : List Int} (p : l'.Perm l) (s : l'.Pairwise (· ≤ ·)) : l' = sortI l :=
  List.Perm.eq_of_pairwise (fun a b _ _ h1 h2 => by omega) s (sortI_srt l) (p.trans (sortI_perm l).symm)
theorem rps_ints : ∀ ns : List Int, RPs G B ρ H (ns.map P.int) (ns.map V.int)
  | [] => .nil
  | _ :: r => .cons (.int _) (rps_ints r)
theorem c_sortI : CallR X (.builtin "sorted") (OL G sortIL) := CallR_imp cr_sortedI fun xc H Q ⟨B, ρ, S, xs, z, S', hs, rx, e, q⟩ => by
  unfold sortIL at e
  split at e
  · split at e
    · rename_i ds hd
      split at e
      · rename_i bs hb
        cases e
        obtain ⟨v, rfl, r⟩ := rvs1 rx
        obtain ⟨p, vs, rfl, h1, t⟩ := asLst_ok hs r hd
        have ev := intsD_ok hb t
        subst ev
        refine ⟨p, bs, rfl, SqL.of h1, fun ns' l hp hs' hl => ?_⟩
        rw [sortI_one hp hs']
        exact q ρ _ _ (Fr.laid hl) (hs.laid hl) (.p (.lst upd_same (hs.fresh hl).1 (hs.fresh hl).2 (rps_ints _)))
      · cases e
    · cases e
  · cases e
theorem c_tuple (hK : X.K = G.K) : CallR X (.type "tuple") (OL G tupleL) := CallR_imp call_tupleF fun xc H Q ⟨B, ρ, S, xs, z, S', hs, rx, e, q⟩ => by
  unfold tupleL at e
  split at e
  · rename_i x
    obtain ⟨v, rfl, r⟩ := rvs1 rx
    split at e
    · rename_i ds hd
      cases e
      obtain ⟨a, vs, rfl, sq, rs⟩ := asTup_ok hd r
      exact ⟨a, vs, rfl, .inr ⟨by rw [hK]; exact sq, q.here hs r⟩⟩
    · split at e
      · rename_i ds hd
        cases e
        obtain ⟨p, vs, rfl, h1, t⟩ := asLst_ok hs r hd
        exact ⟨p, vs, rfl, .inl ⟨SqL.of h1, q.newT hs t⟩⟩
      · cases e
  · cases e
theorem c_list (hK : X.K = G.K) : CallR X (.type "list") (OL G listL) := CallR_imp call_list_of fun xc H Q ⟨B, ρ, S, xs, z, S', hs, rx, e, q⟩ => by
  unfold listL at e
  split at e
  · rename_i x
    obtain ⟨v, rfl, r⟩ := rvs1 rx
    split at e
    · rename_i ds hd
      cases e
      obtain ⟨p, vs, rfl, sq, rs⟩ := asSeq_ok hs r hd
      rw [← hK] at sq
      exact ⟨p, vs, rfl, sq, fun l hl => q.newL hs rs hl⟩
    · cases e
  · cases e
theorem c_listN (hK : X.K = G.K) : CallR X (.type "list") (OL G listN) := CallR_imp call_list_of fun xc H Q ⟨B, ρ, S, xs, z, S', hs, rx, e, q⟩ => by
  unfold listN at e
  split at e
  · rename_i x
    obtain ⟨v, rfl, r⟩ := rvs1 rx
    split at e
    · rename_i ds hd
      cases e
      obtain ⟨p, vs, rfl, sq, rs⟩ := asSeq_ok hs r hd
      rw [← hK] at sq
      exact ⟨p, vs, rfl, sq, fun l hl => q.newM hs rs hl⟩
    · cases e
  · cases e
end

/-! ### methods of lists -/
def appendM : FM := fun x ys S => match x, ys with
  | .loc n, [y] => (match S[n]? with
    | some (.lst xs) => if xs.length < 100000 then some (.p .non, S.set n (.lst (xs ++ [y]))) else none
    | _ => none)
  | _, _ => none
def extendM : FM := fun x ys S => match x, ys with
  | .loc n, [y] => (match S[n]? with
    | some (.lst xs) => (match asLst y S with
      | some zs => if xs.length + zs.length ≤ 100000 then some (.p .non, S.set n (.lst (xs ++ zs))) else none
      | none => none)
    | _ => none)
  | _, _ => none
def popM : FM := fun x ys S => match x, ys with
  | .loc n, [] => (match S[n]? with
    | some (.lst xs) => (match xs[xs.length - 1]? with
      | some y => some (y, S.set n (.lst xs.dropLast))
      | none => none)
    | _ => none)
  | _, _ => none
def popAtM : FM := fun x ys S => match x, ys with
  | .loc n, [.p (.int i)] => (match S[n]? with
    | some (.lst xs) => if -(2 ^ 63) ≤ i ∧ i < 2 ^ 63 then (match seqIndex? i xs.length with
      | some k => (match xs[k]? with
        | some y => some (y, S.set n (.lst (xs.eraseIdx k)))
        | none => none)
      | none => none) else none
    | _ => none)
  | _, _ => none
def idxI (i : Int) : List Int → Option Nat
  | [] => none
  | j :: r => if j = i then some 0 else (match idxI i r with
    | some k => some (k + 1)
    | none => none)
def indexM : FM := fun x ys S => match ys with
  | [.p (.int i)] => (match asLst x S with
    | some ds => (match intsD ds with
      | some is => (match idxI i is with
        | some k => some (.p (.int (k : Nat)), S)
        | none => none)
      | none => none)
    | none => none)
  | _ => none
section
variable {X : Cx} {G : Gx} {B ρ : List Addr} {S S' : Sto} {H : Hp} {x y d : D} {v : V}
theorem RVs.eraseIdx : ∀ {d : List D} {v : List V} (n : Nat), RVs G B ρ H d v → RVs G B ρ H (d.eraseIdx n) (v.eraseIdx n)
  | _, _, _, .nil => .nil
  | _, _, 0, .cons _ t => t
  | _, _, n + 1, .cons q t => .cons q (RVs.eraseIdx n t)
theorem RVs.dropLast {ds : List D} {vs : List V} (r : RVs G B ρ H ds vs) : RVs G B ρ H ds.dropLast vs.dropLast := by
  rw [List.dropLast_eq_take, List.dropLast_eq_take, r.length]
  exact r.take _
/-- a list of the store is rewritten -/
theorem nofz {H : Hp} {a : Addr} {o : HO} (e : H a = some o) (n : ∀ a b, o ≠ .frz a b := by exact fun _ _ z => nomatch z) : NoFz H a := fun a b h => by
  rw [e] at h
  cases h
  exact n _ _ rfl
theorem Po.setL {n : Nat} {a : Addr} {ds : List D} {vs ws : List V} {Q : VK} {z : D} {zv : V} (hs : Hs G B ρ S H) (ha : ρ[n]? = some a) (e : H a = some (.lst ws)) (r : RVs G B ρ H ds vs) (rz : RV G B ρ H z zv) (k : Po G B ρ H z (S.set n (.lst ds)) Q) : Q zv (upd H a (.lst vs)) := by
  have f : Fr ρ H ρ (upd H a (.lst vs)) := Fr.put (List.mem_of_getElem? ha) (nofz e)
  exact k ρ _ _ f (hs.put ha (nofz e) ⟨vs, upd_same, r.mono f hs⟩) (rz.mono f hs)
theorem m_append : MtR X "list.append" (OM G appendM) := MtR_imp mt_append fun xc yc H Q ⟨B, ρ, S, x, ys, z, S', hs, rx, ry, e, q⟩ => by
  unfold appendM at e
  split at e
  · rename_i n y
    split at e
    · rename_i xs hn
      split at e
      · rename_i hz
        cases e
        obtain ⟨a, rfl, ha, vs, e1, t⟩ := hs.at_loc rx hn
        obtain ⟨w, rfl, r⟩ := rvs1 ry
        exact ⟨a, vs, w, rfl, rfl, e1, by rw [← t.length]; exact Nat.lt_of_lt_of_le hz (by decide), q.setL hs ha e1 (t.append (.cons r .nil)) (.p .non)⟩
      · cases e
    · cases e
  · cases e
theorem m_extend : MtR X "list.extend" (OM G extendM) := MtR_imp mt_extend fun xc yc H Q ⟨B, ρ, S, x, ys, z, S', hs, rx, ry, e, q⟩ => by
  unfold extendM at e
  split at e
  · rename_i n y
    split at e
    · rename_i xs hn
      split at e
      · rename_i zs hy
        split at e
        · rename_i hz
          cases e
          obtain ⟨a, rfl, ha, vs, e1, t⟩ := hs.at_loc rx hn
          obtain ⟨w, rfl, r⟩ := rvs1 ry
          obtain ⟨b, us, rfl, e2, t2⟩ := asLst_ok hs r hy
          exact ⟨a, b, vs, us, rfl, rfl, e1, e2, by rw [← t.length, ← t2.length]; exact sz_ok hz, q.setL hs ha e1 (t.append t2) (.p .non)⟩
        · cases e
      · cases e
    · cases e
  · cases e
theorem m_pop : MtR X "list.pop" (OM G popM) := MtR_imp mt_pop fun xc yc H Q ⟨B, ρ, S, x, ys, z, S', hs, rx, ry, e, q⟩ => by
  unfold popM at e
  split at e
  · rename_i n
    split at e
    · rename_i xs hn
      split at e
      · rename_i y hy
        cases e
        obtain ⟨a, rfl, ha, vs, e1, t⟩ := hs.at_loc rx hn
        cases ry
        obtain ⟨w, h1, h2⟩ := t.get hy
        rw [t.length] at h1
        exact ⟨a, vs, w, rfl, rfl, e1, h1, q.setL hs ha e1 t.dropLast h2⟩
      · cases e
    · cases e
  · cases e
theorem m_popAt : MtR X "list.pop" (OM G popAtM) := MtR_imp mt_popAt fun xc yc H Q ⟨B, ρ, S, x, ys, z, S', hs, rx, ry, e, q⟩ => by
  unfold popAtM at e
  split at e
  · rename_i n i
    split at e
    · rename_i xs hn
      split at e
      · rename_i hi
        split at e
        · rename_i k hk
          split at e
          · rename_i y hy
            cases e
            obtain ⟨a, rfl, ha, vs, e1, t⟩ := hs.at_loc rx hn
            obtain ⟨w, rfl, r⟩ := rvs1 ry
            rw [rv_int r]
            obtain ⟨u, h1, h2⟩ := t.get hy
            rw [t.length] at hk
            exact ⟨a, vs, i, k, u, rfl, rfl, e1, hi.1, hi.2, hk, h1, q.setL hs ha e1 (t.eraseIdx k) h2⟩
          · cases e
        · cases e
      · cases e
    · cases e
  · cases e
theorem idxI_ok {i : Int} : ∀ {l : List Int} {k : Nat}, idxI i l = some k → l[k]? = some i ∧ ∀ m z, m < k → l[m]? = some z → z ≠ i
  | [], _, e => by cases e
  | j :: r, k, e => by
    unfold idxI at e
    split at e
    · rename_i h
      cases e
      exact ⟨by simp [h], fun m z h => absurd h (Nat.not_lt_zero _)⟩
    · rename_i h
      split at e
      · rename_i k' hk
        cases e
        obtain ⟨a, b⟩ := idxI_ok hk
        refine ⟨by simpa using a, fun m z hm hz => ?_⟩
        cases m with
        | zero =>
          have e : j = z := Option.some.inj hz
          rw [← e]
          exact h
        | succ m => exact b m z (by omega) (by simpa using hz)
      · cases e
theorem m_index : MtR X "list.index" (OM G indexM) := MtR_imp mt_index fun xc yc H Q ⟨B, ρ, S, x, ys, z, S', hs, rx, ry, e, q⟩ => by
  unfold indexM at e
  split at e
  · rename_i i
    split at e
    · rename_i ds hd
      split at e
      · rename_i is hi
        split at e
        · rename_i k hk
          cases e
          obtain ⟨p, vs, rfl, h1, t⟩ := asLst_ok hs rx hd
          have ev := intsD_ok hi t
          subst ev
          obtain ⟨w, rfl, r⟩ := rvs1 ry
          rw [rv_int r]
          obtain ⟨a, b⟩ := idxI_ok hk
          refine ⟨p, _, .int i, k, .int i, rfl, rfl, SqL.of h1, rfl, ?_, by rw [List.getElem?_map, a]; rfl, by simp [eqV], fun m z' hm hz => ?_, q.p hs (.int _)⟩
          · rw [List.all_map]
            exact List.all_eq_true.mpr fun _ _ => rfl
          · rw [List.getElem?_map] at hz
            cases hm' : is[m]? with
            | none => rw [hm'] at hz; cases hz
            | some w =>
              rw [hm'] at hz
              cases hz
              have := b m w hm hm'
              simp [eqV, this]
        · cases e
      · cases e
    · cases e
  · cases e
end
end Rf
end

section
set_option Elab.async false
set_option linter.all false
set_option maxRecDepth 100000
set_option maxHeartbeats 4000000
/-! Rf10: dicts; in. -/
namespace Rf
open PySem L2

/-! ### a dict as data -/
def getA {κ α : Type} [DecidableEq κ] (k : κ) : List (κ × α) → Option α
  | [] => none
  | (j, x) :: r => if j = k then some x else getA k r
def putA {κ α : Type} [DecidableEq κ] (k : κ) (y : α) : List (κ × α) → List (κ × α)
  | [] => [(k, y)]
  | (j, x) :: r => if j = k then (j, y) :: repA k y r else (j, x) :: putA k y r
where repA (k : κ) (y : α) : List (κ × α) → List (κ × α)
  | [] => []
  | (j, x) :: r => (if j = k then (j, y) else (j, x)) :: repA k y r
def delA {κ α : Type} [DecidableEq κ] (k : κ) : List (κ × α) → List (κ × α)
  | [] => []
  | (j, x) :: r => if j = k then delA k r else (j, x) :: delA k r
/-- a value as a key -/
def keyOf : D → Option Key
  | .p (.int i) => some (.inl i)
  | .p (.str x) => some (.inr x)
  | _ => none
section
variable {G : Gx} {B ρ : List Addr} {S : Sto} {H : Hp} {κ : Type} [DecidableEq κ]
theorem RK.get : ∀ {ds : List (κ × D)} {vs : List (κ × V)} (k : κ), RK G B ρ H ds vs → (getA k ds = none ∧ valV vs k = none) ∨ ∃ d v, getA k ds = some d ∧ valV vs k = some v ∧ RV G B ρ H d v
  | _, _, k, .nil => .inl ⟨rfl, rfl⟩
  | _, _, k, .cons (k := j) (d := d) (v := v) r t => by
    unfold getA
    by_cases h : j = k
    · rw [if_pos h, valV_pos h]
      exact .inr ⟨d, v, rfl, rfl, r⟩
    · rw [if_neg h, valV_neg h]
      exact RK.get k t
theorem RK.get_some {ds : List (κ × D)} {vs : List (κ × V)} {k : κ} {d : D} (r : RK G B ρ H ds vs) (e : getA k ds = some d) : ∃ v, valV vs k = some v ∧ RV G B ρ H d v := by
  rcases r.get k with ⟨h, _⟩ | ⟨d', v, h1, h2, h3⟩
  · rw [h] at e; cases e
  · rw [h1] at e; cases e; exact ⟨v, h2, h3⟩
theorem RK.get_none {ds : List (κ × D)} {vs : List (κ × V)} {k : κ} (r : RK G B ρ H ds vs) (e : getA k ds = none) : valV vs k = none := by
  rcases r.get k with ⟨_, h⟩ | ⟨d', v, h1, h2, h3⟩
  · exact h
  · rw [h1] at e; cases e
theorem RK.isSome {ds : List (κ × D)} {vs : List (κ × V)} (k : κ) (r : RK G B ρ H ds vs) : (getA k ds).isSome = (valV vs k).isSome := by
  rcases r.get k with ⟨h, h'⟩ | ⟨d', v, h1, h2, h3⟩
  · rw [h, h']; rfl
  · rw [h1, h2]; rfl
theorem valV_isSome (k : κ) : ∀ kvs : List (κ × V), (kvs.any fun kv => decide (kv.1 = k)) = (valV kvs k).isSome := valV_any k
theorem RK.rep {y : D} {w : V} (k : κ) (q : RV G B ρ H y w) : ∀ {ds : List (κ × D)} {vs : List (κ × V)}, RK G B ρ H ds vs → RK G B ρ H (putA.repA k y ds) (vs.map fun kv => if kv.1 = k then (kv.1, w) else kv)
  | _, _, .nil => .nil
  | _, _, .cons (k := j) r t => by
    rw [List.map_cons]
    unfold putA.repA
    by_cases h : j = k
    · rw [if_pos h, if_pos h]
      exact .cons q (RK.rep k q t)
    · rw [if_neg h, if_neg h]
      exact .cons r (RK.rep k q t)
theorem putK_eq (kvs : List (κ × V)) (k : κ) (v : V) : putK kvs k v = if (kvs.any fun kv => decide (kv.1 = k)) = true then kvs.map (fun kv => if kv.1 = k then (kv.1, v) else kv) else kvs ++ [(k, v)] := by
  unfold putK
  rfl
theorem RK.put {y : D} {w : V} (k : κ) (q : RV G B ρ H y w) : ∀ {ds : List (κ × D)} {vs : List (κ × V)}, RK G B ρ H ds vs → RK G B ρ H (putA k y ds) (putK vs k w)
  | _, _, .nil => by
    rw [putK_eq]
    exact .cons q .nil
  | _, _, .cons (k := j) (d := d) (v := v) (ds := ds) (vs := vs) r t => by
    have ih := RK.put k q t
    rw [putK_eq] at ih ⊢
    unfold putA
    by_cases h : j = k
    · rw [if_pos h]
      have e : ((j, v) :: vs).any (fun kv => decide (kv.1 = k)) = true := by simp [h]
      rw [if_pos e, List.map_cons, if_pos h]
      exact .cons q (RK.rep k q t)
    · rw [if_neg h]
      have e : ((j, v) :: vs).any (fun kv => decide (kv.1 = k)) = vs.any fun kv => decide (kv.1 = k) := by simp [h]
      rw [e]
      by_cases a : (vs.any fun kv => decide (kv.1 = k)) = true
      · rw [if_pos a] at ih ⊢
        rw [List.map_cons, if_neg h]
        exact .cons r ih
      · rw [if_neg a] at ih ⊢
        exact .cons r ih
theorem RK.del (k : κ) : ∀ {ds : List (κ × D)} {vs : List (κ × V)}, RK G B ρ H ds vs → RK G B ρ H (delA k ds) (dropK vs k)
  | _, _, .nil => .nil
  | _, _, .cons (k := j) (v := v) (vs := vs) r t => by
    unfold delA
    by_cases h : j = k
    · rw [if_pos h, dropK_pos (p := (j, v)) (r := vs) h]
      exact RK.del k t
    · rw [if_neg h, dropK_neg (p := (j, v)) (r := vs) h]
      exact .cons r (RK.del k t)
theorem keyOf_ok {d : D} {v : V} {k : Key} (r : RV G B ρ H d v) (e : keyOf d = some k) : v = kV k := by
  cases r with
  | p q => cases q <;> first | (cases e; rfl) | cases e
  | _ => cases e
theorem rv_tk {ks : List Key} {v : V} (r : RV G B ρ H (.p (.tk ks)) v) : ∃ b, v = .ref b ∧ H b = some (.tup (ks.map kV)) := by
  cases r with
  | p q => cases q with
    | tk s => exact ⟨_, rfl, s⟩
end
/-- what stands at a key, or that nothing does -/
def lookD (x y : D) (S : Sto) : Option (Option D) := match x with
  | .loc n => (match S[n]? with
    | some (.dk kvs) => (match keyOf y with
      | some k => some (getA k kvs)
      | none => none)
    | some (.fk kvs) => (match keyOf y with
      | some k => some (getA k kvs)
      | none => none)
    | some (.dt kvs) => (match y with
      | .p (.tk ks) => some (getA ks kvs)
      | _ => none)
    | some (.ft kvs) => (match y with
      | .p (.tk ks) => some (getA ks kvs)
      | _ => none)
    | _ => none)
  | _ => none
def dgetD : F2 := fun x y S => match lookD x y S with
  | some (some d) => some (d, S)
  | _ => none
/-- o[i] = v, a dict or a list -/
def setD (x y d : D) (S : Sto) : Option Sto := match x with
  | .loc n => (match S[n]? with
    | some (.dk kvs) => (match keyOf y with
      | some k => if kvs.length < 100000 then some (S.set n (.dk (putA k d kvs))) else none
      | none => none)
    | some (.dt kvs) => (match y with
      | .p (.tk ks) => if kvs.length < 100000 then some (S.set n (.dt (putA ks d kvs))) else none
      | _ => none)
    | some (.lst xs) => (match y with
      | .p (.int i) => (match ixN xs.length i with
        | some j => some (S.set n (.lst (xs.set j d)))
        | none => none)
      | _ => none)
    | _ => none)
  | _ => none
section
variable {X : Cx} {G : Gx} {B ρ : List Addr} {S S' : Sto} {H : Hp} {x y d : D} {v u : V}
theorem lookD_ok {o : Option D} (hs : Hs G B ρ S H) (rx : RV G B ρ H x v) (ry : RV G B ρ H y u) (e : lookD x y S = some o) :
    ∃ a w, v = .ref a ∧ DGet H a u w ∧ ((o = none ∧ w = none) ∨ ∃ d z, o = some d ∧ w = some z ∧ RV G B ρ H d z) := by
  unfold lookD at e
  split at e
  · rename_i n
    split at e
    · rename_i kvs hn
      obtain ⟨a, rfl, ha, vs, h1, t⟩ := hs.at_loc rx hn
      split at e
      · rename_i k hk
        cases e
        rw [keyOf_ok ry hk]
        refine ⟨a, _, rfl, DGet.k h1, ?_⟩
        rcases t.get k with ⟨a1, a2⟩ | ⟨d, z, a1, a2, a3⟩
        · exact .inl ⟨a1, a2⟩
        · exact .inr ⟨d, z, a1, a2, a3⟩
      · cases e
    · rename_i kvs hn
      obtain ⟨a, rfl, ha, o', vs, h1, t⟩ := hs.at_loc rx hn
      split at e
      · rename_i k hk
        cases e
        rw [keyOf_ok ry hk]
        refine ⟨a, _, rfl, .inl ⟨vs, k, .inr ⟨o', h1⟩, rfl, rfl⟩, ?_⟩
        rcases t.get k with ⟨a1, a2⟩ | ⟨d, z, a1, a2, a3⟩
        · exact .inl ⟨a1, a2⟩
        · exact .inr ⟨d, z, a1, a2, a3⟩
      · cases e
    · rename_i kvs hn
      obtain ⟨a, rfl, ha, vs, h1, t⟩ := hs.at_loc rx hn
      split at e
      · rename_i ks
        cases e
        obtain ⟨b, rfl, hb⟩ := rv_tk ry
        refine ⟨a, _, rfl, DGet.t h1 hb, ?_⟩
        rcases t.get ks with ⟨a1, a2⟩ | ⟨d, z, a1, a2, a3⟩
        · exact .inl ⟨a1, a2⟩
        · exact .inr ⟨d, z, a1, a2, a3⟩
      · cases e
    · rename_i kvs hn
      obtain ⟨a, rfl, ha, o', vs, h1, t⟩ := hs.at_loc rx hn
      split at e
      · rename_i ks
        cases e
        obtain ⟨b, rfl, hb⟩ := rv_tk ry
        refine ⟨a, _, rfl, .inr ⟨vs, ks, b, .inr ⟨o', h1⟩, rfl, hb, rfl⟩, ?_⟩
        rcases t.get ks with ⟨a1, a2⟩ | ⟨d, z, a1, a2, a3⟩
        · exact .inl ⟨a1, a2⟩
        · exact .inr ⟨d, z, a1, a2, a3⟩
      · cases e
    · cases e
  · cases e
theorem e_dget {o i : Expr} {mo mi : ME} {pos : Pos} (hu : X.A.units + 1 < cLine) (ho : PE X o (RdE G mo)) (hi : PE X i (RdE G mi)) (hs : NoSl i) : PE X (.Subscript o i pos) (RdE G (mOp dgetD mo mi)) :=
  PE_imp (pe_dget hu ho hi hs) fun σc H Q h => by
    obtain ⟨B, ρ, S, σ, x, S1, hs, sl, ea, k⟩ := RdE_op ho hi h
    refine ⟨B, ρ, S, σ, x, S1, hs, sl, ea, fun ρ1 xc H1 f1 hs1 r1 => ?_⟩
    obtain ⟨B2, ρ2, S2, σ2, y, S3, hs2, sl2, eb, k2⟩ := k ρ1 xc H1 f1 hs1 r1
    refine ⟨B2, ρ2, S2, σ2, y, S3, hs2, sl2, eb, fun ρ3 yc H3 f3 hs3 r3 => ?_⟩
    obtain ⟨B4, ρ4, S4, p, q, z, S5, hs4, rp, rq, e4, po⟩ := k2 ρ3 yc H3 f3 hs3 r3
    unfold dgetD at e4
    split at e4
    · rename_i dd hd
      cases e4
      obtain ⟨a, w, rfl, g, h⟩ := lookD_ok hs4 rp rq hd
      rcases h with ⟨c, _⟩ | ⟨d', z', c, rfl, rz⟩
      · cases c
      · cases c
        exact ⟨a, z', rfl, g, po.here hs4 rz⟩
    · cases e4
theorem PSet_imp {t t' : TSet} (h : PSet X t) (k : ∀ o i v H Q, t' o i v H Q → t o i v H Q) : PSet X t' := fun pins s σ H o i v ov iv u Q I r1 r2 r3 q => h pins s σ H o i v ov iv u Q I r1 r2 r3 (k o i v H Q q)
theorem PSet_or {t t' : TSet} (h : PSet X t) (h' : PSet X t') : PSet X (fun o i v H Q => t o i v H Q ∨ t' o i v H Q) := fun pins s σ H o i v ov iv u Q I r1 r2 r3 q => by
  rcases q with q | q
  · exact h pins s σ H o i v ov iv u Q I r1 r2 r3 q
  · exact h' pins s σ H o i v ov iv u Q I r1 r2 r3 q
theorem p_setD (hu : X.A.units + 1 < cLine) : PSet X (OS G setD) := PSet_imp (PSet_or set_list (set_dict hu)) fun oc ic vc H Q ⟨B, ρ, S, x, y, d, S', hs, rx, ry, rd, e, k⟩ => by
  unfold setD at e
  split at e
  · rename_i n
    split at e
    · rename_i kvs hn
      obtain ⟨a, rfl, ha, vs, h1, t⟩ := hs.at_loc rx hn
      split at e
      · rename_i key hk
        split at e
        · rename_i hz
          cases e
          rw [keyOf_ok ry hk]
          have f : Fr ρ H ρ (upd H a (.dK (putK vs key vc))) := Fr.put (List.mem_of_getElem? ha) (nofz h1)
          exact .inr ⟨a, _, rfl, DPut.k h1 (by rw [← t.length]; exact Nat.lt_of_lt_of_le hz (by decide)), k ρ _ f (hs.put ha (nofz h1) ⟨_, upd_same, (t.put key rd).mono f hs⟩)⟩
        · cases e
      · cases e
    · rename_i kvs hn
      obtain ⟨a, rfl, ha, vs, h1, t⟩ := hs.at_loc rx hn
      split at e
      · rename_i ks
        split at e
        · rename_i hz
          cases e
          obtain ⟨b, rfl, hb⟩ := rv_tk ry
          have f : Fr ρ H ρ (upd H a (.dT (putK vs ks vc))) := Fr.put (List.mem_of_getElem? ha) (nofz h1)
          exact .inr ⟨a, _, rfl, DPut.t h1 hb (by rw [← t.length]; exact Nat.lt_of_lt_of_le hz (by decide)), k ρ _ f (hs.put ha (nofz h1) ⟨_, upd_same, (t.put ks rd).mono f hs⟩)⟩
        · cases e
      · cases e
    · rename_i xs hn
      obtain ⟨a, rfl, ha, vs, h1, t⟩ := hs.at_loc rx hn
      split at e
      · rename_i i
        split at e
        · rename_i j hj
          cases e
          rw [rv_int ry]
          have f : Fr ρ H ρ (upd H a (.lst (vs.set j vc))) := Fr.put (List.mem_of_getElem? ha) (nofz h1)
          exact .inl ⟨a, vs, i, j, rfl, rfl, h1, by rw [← t.length]; exact hj, k ρ _ f (hs.put ha (nofz h1) ⟨_, upd_same, (t.set rd j).mono f hs⟩)⟩
        · cases e
      · cases e
    · cases e
  · cases e
end
end Rf
end

section
set_option Elab.async false
set_option linter.all false
set_option maxRecDepth 100000
set_option maxHeartbeats 4000000
/-! Rf11: in; dicts made, asked, walked. -/
namespace Rf
open PySem L2

/-! ### a locked dict is unlocked -/
section
variable {G : Gx} {B ρ : List Addr} {S S' : Sto} {H : Hp} {a : Addr} {o u : HO} {x y d : D} {v : V}
theorem Tt.unl {p : Addr} {vs : List V} (e : H a = some u) (c : Chg u) (s : Tt H p vs) : Tt (upd H a o) p vs := by
  obtain ⟨ob, d, s⟩ := s
  refine ⟨ob, d, ?_⟩
  rw [upd_ne (fun z => by rw [z, e] at s; cases s; exact c)]
  exact s
theorem Tp.unl {K : PySem.W.Frag} {p : Addr} {xs : List P} {vs : List V} (e : H a = some u) (c : Chg u) (s : Tp K H p xs vs) : Tp K (upd H a o) p xs vs := s.imp (Tt.unl e c) id
mutual
theorem RP.unl (ha : a ∈ ρ) (e : H a = some u) (c : Chg u) : ∀ {d : P} {v : V}, RP G B ρ H d v → RP G B ρ (upd H a o) d v
  | _, _, .non => .non
  | _, _, .bl b => .bl b
  | _, _, .int i => .int i
  | _, _, .str x => .str x
  | _, _, .fn i => .fn i
  | _, _, .tup s r => .tup (s.unl e c) (RPs.unl ha e c r)
  | _, _, .lst s b n r => .lst (by rw [upd_ne (fun z => n (by rw [z]; exact ha))]; exact s) b n (RPs.unl ha e c r)
  | _, _, .scr s => .scr (by
    rcases s with ⟨o', s⟩ | s
    · refine .inl ⟨o', ?_⟩
      rw [upd_ne (fun z => by rw [z, e] at s; cases s; exact c)]
      exact s
    · exact .inr s)
  | _, _, .ty n => .ty n
  | _, _, .tk s => .tk (by
    rw [upd_ne (fun z => by rw [z, e] at s; cases s; exact c)]
    exact s)
theorem RPs.unl (ha : a ∈ ρ) (e : H a = some u) (c : Chg u) : ∀ {d : List P} {v : List V}, RPs G B ρ H d v → RPs G B ρ (upd H a o) d v
  | _, _, .nil => .nil
  | _, _, .cons r q => .cons (RP.unl ha e c r) (RPs.unl ha e c q)
end
mutual
theorem RV.unl (ha : a ∈ ρ) (e : H a = some u) (c : Chg u) : ∀ {d : D} {v : V}, RV G B ρ H d v → RV G B ρ (upd H a o) d v
  | _, _, .p r => .p (RP.unl ha e c r)
  | _, _, .loc h => .loc h
  | _, _, .mix s r => .mix (s.unl e c) (RVs.unl ha e c r)
  | _, _, .mxl s b n r => .mxl (by rw [upd_ne (fun z => n (by rw [z]; exact ha))]; exact s) b n (RVs.unl ha e c r)
theorem RVs.unl (ha : a ∈ ρ) (e : H a = some u) (c : Chg u) : ∀ {d : List D} {v : List V}, RVs G B ρ H d v → RVs G B ρ (upd H a o) d v
  | _, _, .nil => .nil
  | _, _, .cons r q => .cons (RV.unl ha e c r) (RVs.unl ha e c q)
end
theorem RK.unl {κ : Type} (ha : a ∈ ρ) (e : H a = some u) (c : Chg u) : ∀ {d : List (κ × D)} {v : List (κ × V)}, RK G B ρ H d v → RK G B ρ (upd H a o) d v
  | _, _, .nil => .nil
  | _, _, .cons r q => .cons (RV.unl ha e c r) (RK.unl ha e c q)
theorem RO.unl (ha : a ∈ ρ) (e : H a = some u) (c : Chg u) {b : Addr} (ne : b ≠ a) {w : AO} (r : RO G B ρ H b w) : RO G B ρ (upd H a o) b w := by
  have e' : upd H a o b = H b := upd_ne ne
  cases w with
  | lst xs => obtain ⟨vs, e1, q⟩ := r; exact ⟨vs, e'.trans e1, q.unl ha e c⟩
  | dk xs => obtain ⟨vs, e1, q⟩ := r; exact ⟨vs, e'.trans e1, q.unl ha e c⟩
  | dt xs => obtain ⟨vs, e1, q⟩ := r; exact ⟨vs, e'.trans e1, q.unl ha e c⟩
  | fk xs => obtain ⟨o, vs, e1, q⟩ := r; exact ⟨o, vs, e'.trans e1, q.unl ha e c⟩
  | ft xs => obtain ⟨o, vs, e1, q⟩ := r; exact ⟨o, vs, e'.trans e1, q.unl ha e c⟩
  | ins c' xs => obtain ⟨dx, vs, e1, q⟩ := r; exact ⟨dx, vs, e'.trans e1, q.unl ha e c⟩
theorem Hs.unl (h : Hs G B ρ S H) {n : Nat} {w : AO} (ha : ρ[n]? = some a) (e : H a = some u) (c : Chg u) (r : RO G B ρ (upd H a o) a w) : Hs G B ρ (S.set n w) (upd H a o) := by
  have hm := List.mem_of_getElem? ha
  refine ⟨by rw [List.length_set]; exact h.len, h.nd, fun b hb => ?_, h.dis, fun i b w' e1 e2 => ?_, G.st h.inv fun b v e n => by
    rw [upd_ne (fun z => h.not e n (by rw [z]; exact hm))]
    exact e⟩
  · obtain ⟨u', e', c'⟩ := h.bar b hb
    have ne : b ≠ a := fun z => h.dis a hm (by rw [← z]; exact hb)
    exact ⟨u', by rw [upd_ne ne]; exact e', c'⟩
  · by_cases hi : n = i
    · subst hi
      rw [ha] at e1
      cases e1
      rw [List.getElem?_set_self (by rw [← h.len]; exact (List.getElem?_eq_some_iff.mp ha).1)] at e2
      cases e2
      exact r
    · rw [List.getElem?_set_ne hi] at e2
      have hb : b ≠ a := fun z => by
        subst z
        obtain ⟨l1, g1⟩ := List.getElem?_eq_some_iff.mp ha
        obtain ⟨l2, g2⟩ := List.getElem?_eq_some_iff.mp e1
        exact hi (nodup_inj h.nd l1 l2 (g1.trans g2.symm))
      exact (h.obj i b w' e1 e2).unl hm e c hb
end

/-! ### for k in d -/
def iKeysD (a : ME) : MI := fun σ S => match a σ S with
  | some (.loc n, S1) => (match S1[n]? with
    | some (.fk kvs) => some (.items (kvs.map fun kv => .p (keyP kv.1)), S1)
    | some (.ft kvs) => some (.items (kvs.map fun kv => .p (.tk kv.1)), S1)
    | _ => none)
  | _ => none
/-- lock, run, unlock -/
def unlK (n : Nat) : Option (Fl × Slots × Sto) → Option (Fl × Slots × Sto)
  | some (f, σ', S') => (match S'[n]? with
    | some (.fk kvs) => some (f, σ', S'.set n (.dk kvs))
    | _ => none)
  | none => none
def unlT (n : Nat) : Option (Fl × Slots × Sto) → Option (Fl × Slots × Sto)
  | some (f, σ', S') => (match S'[n]? with
    | some (.ft kvs) => some (f, σ', S'.set n (.dt kvs))
    | _ => none)
  | none => none
def sForK (a : ME) (g : MG) (b : MS) : MS := fun σ S => match a σ S with
  | some (.loc n, _) => (match S[n]? with
    | some (.dk kvs) => unlK n (sFor (iKeysD a) g b σ (S.set n (.fk kvs)))
    | some (.dt kvs) => unlT n (sFor (iKeysD a) g b σ (S.set n (.ft kvs)))
    | _ => none)
  | _ => none
section
variable {X : Cx} {G : Gx} {tg iter : Expr} {ma : ME} {mg : MG} {ms : MS} {sts : List Stmt} {pos : Pos}
theorem RK.at_ {κ : Type} {B ρ : List Addr} {H : Hp} : ∀ {ds : List (κ × D)} {vs : List (κ × V)} {i : Nat} {k : κ} {v : V}, RK G B ρ H ds vs → vs[i]? = some (k, v) → ∃ d, ds[i]? = some (k, d)
  | _, _, i, _, _, .nil, e => by simp at e
  | _, _, 0, _, _, .cons (d := d) r t, e => by
    simp at e
    obtain ⟨rfl, rfl⟩ := e
    exact ⟨d, rfl⟩
  | _, _, i + 1, k, v, .cons r t, e => RK.at_ (i := i) t (by simpa using e)
theorem i_keysD (h : PE X iter (RdE G ma)) : PI X tg iter (RdI G (iKeysD ma)) := PI_imp (pi_keys h) fun σc H R ⟨B, ρ, S, σ, src, S', hs, sl, e, k⟩ => by
  unfold iKeysD at e
  split at e
  · rename_i n S1 hn
    refine ⟨B, ρ, S, σ, .loc n, S1, hs, sl, hn, fun ρ1 vc H1 fr hs1 r => ?_⟩
    split at e
    · rename_i kvs hk
      cases e
      obtain ⟨a, rfl, ha, o, vs, h1, t⟩ := hs1.at_loc r hk
      refine ⟨a, o, rfl, .inl ⟨vs, h1, k ρ1 H1 _ fr hs1 ?_⟩⟩
      intro B' ρ' S2 H' hb f2 hs2 i
      have h2 := f2.fz a o _ h1
      refine ⟨fun d hd => ⟨⟨h2, ?_⟩, fun x H'' y => ?_⟩, fun hl => ⟨h2, by rw [List.length_map, t.length] at hl; exact hl⟩⟩
      · rw [← t.length]
        have := (List.getElem?_eq_some_iff.mp hd).1
        rwa [List.length_map] at this
      · obtain ⟨rfl, key, v, hv, rfl⟩ := y
        obtain ⟨d', hd'⟩ := t.at_ hv
        rw [List.getElem?_map, hd'] at hd
        cases hd
        exact ⟨Fr.refl, hs2, .p rp_key⟩
    · rename_i kvs hk
      cases e
      obtain ⟨a, rfl, ha, o, vs, h1, t⟩ := hs1.at_loc r hk
      refine ⟨a, o, rfl, .inr ⟨vs, h1, k ρ1 H1 _ fr hs1 ?_⟩⟩
      intro B' ρ' S2 H' hb f2 hs2 i
      have h2 := f2.fz a o _ h1
      refine ⟨fun d hd => ⟨⟨h2, ?_⟩, fun x H'' y => ?_⟩, fun hl => ⟨h2, by rw [List.length_map, t.length] at hl; exact hl⟩⟩
      · rw [← t.length]
        have := (List.getElem?_eq_some_iff.mp hd).1
        rwa [List.length_map] at this
      · obtain ⟨rfl, key, v, q, hv, rfl, hq⟩ := y
        obtain ⟨d', hd'⟩ := t.at_ hv
        rw [List.getElem?_map, hd'] at hd
        cases hd
        exact ⟨Fr.refl, hs2, .p (.tk hq)⟩
    · cases e
  · cases e
/-- a statement while a dict is locked -/
theorem s_lock {B ρ : List Addr} {S S2 : Sto} {σ σ2 : Slots} {H : Hp} {σc : L2.St} {D : Ends} {f : Fl} {n : Nat} {a : Addr} {u : HO} {w w' : AO} (hs : Hs G B ρ S H) (sl : Sl G B ρ H σ σc) (ha : ρ[n]? = some a) (e : H a = some u) (mu : Mut (some u)) (nf : NoFz H a)
    (hc : ∀ od, Chg (.frz od u)) (up : ∀ od, RO G B ρ (upd H a (.frz od u)) a w) (e2 : ms σ (S.set n w) = some (f, σ2, S2)) (hw : S2[n]? = some w') {w2 : AO}
    (dn : ∀ ρ' H' od, a ∈ ρ' → H' a = some (.frz od u) → RO G B ρ' H' a w' → RO G B ρ' (upd H' a u) a w2) (k : EndOk G B ρ H D σ2 (S2.set n w2) f) : tLock (RdS G ms) D σc H := by
  refine ⟨a, u, e, mu, fun od => ?_⟩
  have hm := List.mem_of_getElem? ha
  have f1 : Fr ρ H ρ (upd H a (.frz od u)) := Fr.put hm nf
  have hs1 : Hs G B ρ (S.set n w) (upd H a (.frz od u)) := hs.put ha nf (up od)
  have key : ∀ ρ' H', Fr ρ (upd H a (.frz od u)) ρ' H' → Hs G B ρ' S2 H' → H' a = some (.frz od u) ∧ Fr ρ H ρ' (upd H' a u) ∧ Hs G B ρ' (S2.set n w2) (upd H' a u) := fun ρ' H' f2 hs2 => by
    have h1 : H' a = some (.frz od u) := f2.fz a od u upd_same
    have ha' := pre_get f2.pre ha
    refine ⟨h1, ⟨f2.pre, fun b o q nb => ?_, fun b hb nb => ?_, fun b o x q => ?_⟩, hs2.unl ha' h1 (hc od) (dn ρ' H' od (List.mem_of_getElem? ha') h1 (hs2.obj n a w' ha' hw))⟩
    · have ne : b ≠ a := fun z => nb (by rw [z]; exact hm)
      rw [upd_ne ne]
      exact f2.keep b o (by rw [upd_ne ne]; exact q) nb
    · have ne : b ≠ a := fun z => nb (by rw [z]; exact hm)
      have := f2.new b hb nb
      rwa [upd_ne ne] at this
    · have ne : b ≠ a := fun z => nf o x (by rw [← z]; exact q)
      rw [upd_ne ne]
      exact f2.fz b o x (by rw [upd_ne ne]; exact q)
  have slk : ∀ ρ' H' σ3 σc3, Fr ρ (upd H a (.frz od u)) ρ' H' → Hs G B ρ' S2 H' → Sl G B ρ' H' σ3 σc3 → Sl G B ρ' (upd H' a u) σ3 σc3 := fun ρ' H' σ3 σc3 f2 hs2 s3 => ⟨s3.len, fun i d q => by
    obtain ⟨v, q1, r⟩ := s3.at_ i d q
    exact ⟨v, q1, r.unl (List.mem_of_getElem? (pre_get f2.pre ha)) (f2.fz a od u upd_same) (hc od)⟩⟩
  refine ⟨B, ρ, _, σ, f, σ2, S2, hs1, sl.mono f1 hs, e2, ?_⟩
  cases f with
  | nx => exact fun ρ' σc' H' f2 hs2 s2 => let ⟨a1, a2, a3⟩ := key ρ' H' f2 hs2; ⟨a1, k ρ' σc' _ a2 a3 (slk ρ' H' _ _ f2 hs2 s2)⟩
  | bk => exact fun ρ' σc' H' f2 hs2 s2 => let ⟨a1, a2, a3⟩ := key ρ' H' f2 hs2; ⟨a1, k ρ' σc' _ a2 a3 (slk ρ' H' _ _ f2 hs2 s2)⟩
  | ct => exact fun ρ' σc' H' f2 hs2 s2 => let ⟨a1, a2, a3⟩ := key ρ' H' f2 hs2; ⟨a1, k ρ' σc' _ a2 a3 (slk ρ' H' _ _ f2 hs2 s2)⟩
  | rt d => exact fun ρ' vc H' f2 hs2 r2 => let ⟨a1, a2, a3⟩ := key ρ' H' f2 hs2; ⟨a1, k ρ' vc _ a2 a3 (r2.unl (List.mem_of_getElem? (pre_get f2.pre ha)) a1 (hc od))⟩
/-- S[n] stays the locked one, at one address -/
theorem s_forK (hp : PassesOwn (model X.prog X.w) X.A X.env X.xe) (hc : X.calm = true) (hi : PE X iter (RdE G ma)) (hg : PG X tg (RdG G mg)) (hb : PSs X sts (RdS G ms)) (hs : ∀ x, foldedSetIterable iter X.env x = pure x := by intro _; rfl) : PS X (.For tg iter sts [] pos) (RdS G (sForK ma mg ms)) :=
  PS_imp (ps_lock (s_for hp hc (i_keysD hi) hg hb hs)) fun D σc H ⟨B, ρ, S, σ, fl, σ', S', hs, sl, e, k⟩ => by
    unfold sForK at e
    split at e
    · rename_i n S0 hn
      split at e
      · rename_i kvs hk
        unfold unlK at e
        split at e
        · rename_i f σ2 S2 he
          have hlt : n < ρ.length := by rw [hs.len]; exact (List.getElem?_eq_some_iff.mp hk).1
          have ha : ρ[n]? = some ρ[n] := List.getElem?_eq_getElem hlt
          obtain ⟨vs, h1, t⟩ := hs.obj n _ _ ha hk
          have nf : NoFz H ρ[n] := nofz h1
          split at e
          · rename_i kvs2 hk2
            cases e
            exact s_lock (w := .fk kvs) hs sl ha h1 (show Mut (some (.dK vs)) from trivial) nf (fun _ => trivial) (fun od => ⟨od, vs, upd_same, t.mono (Fr.put (List.mem_of_getElem? ha) nf) hs⟩) he hk2 (fun ρ' H' od hm hf r => by
              obtain ⟨o', vs', q, r⟩ := r
              rw [hf] at q
              cases q
              exact ⟨vs, upd_same, r.unl hm hf trivial⟩) k
          · cases e
        · cases e
      · rename_i kvs hk
        unfold unlT at e
        split at e
        · rename_i f σ2 S2 he
          have hlt : n < ρ.length := by rw [hs.len]; exact (List.getElem?_eq_some_iff.mp hk).1
          have ha : ρ[n]? = some ρ[n] := List.getElem?_eq_getElem hlt
          obtain ⟨vs, h1, t⟩ := hs.obj n _ _ ha hk
          have nf : NoFz H ρ[n] := nofz h1
          split at e
          · rename_i kvs2 hk2
            cases e
            exact s_lock (w := .ft kvs) hs sl ha h1 (show Mut (some (.dT vs)) from trivial) nf (fun _ => trivial) (fun od => ⟨od, vs, upd_same, t.mono (Fr.put (List.mem_of_getElem? ha) nf) hs⟩) he hk2 (fun ρ' H' od hm hf r => by
              obtain ⟨o', vs', q, r⟩ := r
              rw [hf] at q
              cases q
              exact ⟨vs, upd_same, r.unl hm hf trivial⟩) k
          · cases e
        · cases e
      · cases e
    · cases e
end
end Rf
end

section
set_option Elab.async false
set_option linter.all false
set_option maxRecDepth 100000
set_option maxHeartbeats 4000000
/-! Rf12: in; {}; get, pop; displays of dicts. -/
namespace Rf
open PySem L2

/-! ### in -/
def flatP : P → Bool
  | .non => true
  | .bl _ => true
  | .int _ => true
  | .str _ => true
  | _ => false
def toV : P → V
  | .non => .non
  | .bl b => .bl b
  | .int i => .int i
  | .str x => .str x
  | _ => .non
def allF : List P → Bool
  | [] => true
  | x :: r => flatP x && allF r
/-- a text of one sign -/
def sign1 (w : Str) : Option Nat := match w.cps.toList with
  | [c] => some c
  | _ => none
theorem sign1_ok {w : Str} {c : Nat} (h : sign1 w = some c) : w = ⟨#[c]⟩ := by
  unfold sign1 at h
  split at h
  · rename_i d hd
    cases h
    obtain ⟨a⟩ := w
    have : a = #[c] := by rw [← Array.toList_inj]; exact hd
    rw [this]
  · cases h
def inQ (x y : D) (S : Sto) : Option Bool := match y with
  | .p (.str z) => (match x with
    | .p (.str w) => (match sign1 w with
      | some c => some (decide (c ∈ z.cps.toList))
      | none => none)
    | _ => none)
  | .p (.tup ps) => (match x with
    | .p q => if flatP q = true ∧ allF ps = true then some (ps.any fun p => eqP p q) else none
    | _ => none)
  | y => match lookD y x S with
    | some o => some o.isSome
    | none => match toP S 3 y, toP S 3 x with
      | some (.lst ps), some q => if okP 40 (.lst ps) = true ∧ okP 40 q = true then some (ps.any fun p => eqP p q) else none
      | _, _ => none
def inD : F2 := fun x y S => match inQ x y S with
  | some b => some (.p (.bl b), S)
  | none => none
def notInD : F2 := fun x y S => match inQ x y S with
  | some b => some (.p (.bl (!b)), S)
  | none => none
section
variable {X : Cx} {G : Gx} {B ρ : List Addr} {S S' : Sto} {H : Hp} {x y d : D} {v u : V}
theorem flatP_ok {p : P} (r : RP G B ρ H p v) (h : flatP p = true) : v = toV p ∧ flatV v = true := by
  cases r <;> first | exact ⟨rfl, rfl⟩ | (simp [flatP] at h)
theorem allF_ok : ∀ {ps : List P} {vs : List V}, RPs G B ρ H ps vs → allF ps = true → vs = ps.map toV ∧ vs.all flatV = true
  | _, _, .nil, _ => ⟨rfl, rfl⟩
  | p :: ps, v :: vs, .cons r t, h => by
    simp only [allF, Bool.and_eq_true] at h
    obtain ⟨a, b⟩ := flatP_ok r h.1
    obtain ⟨c, d⟩ := allF_ok t h.2
    exact ⟨by rw [List.map_cons, a, c], by rw [List.all_cons, b, d]; rfl⟩
theorem eqV_P {p q : P} (hp : flatP p = true) (hq : flatP q = true) : eqV (toV p) (toV q) = eqP p q := by
  cases p <;> first | (simp [flatP] at hp; done) | skip
  all_goals cases q <;> first | (simp [flatP] at hq; done) | simp [toV, eqV, eqP]
theorem inV_P {q : P} (hq : flatP q = true) : ∀ {ps : List P}, allF ps = true → inV (toV q) (ps.map toV) = ps.any fun p => eqP p q
  | [], _ => rfl
  | p :: ps, h => by
    simp only [allF, Bool.and_eq_true] at h
    have ih := inV_P hq h.2
    unfold inV at ih ⊢
    rw [List.map_cons, List.any_cons, List.any_cons, ih, eqV_P h.1 hq]
theorem anyP {q : P} (hq : okP 40 q = true) : ∀ {ps : List P}, okPs 39 ps = true → ((pyPs ps).any fun z => PyData.eqv z (pyP q)) = ps.any fun p => eqP p q
  | [], _ => by simp [pyPs]
  | p :: ps, h => by
    simp only [okPs, Bool.and_eq_true] at h
    simp only [pyPs, List.any_cons]
    rw [anyP hq h.2, eqP_py 39 40 p q h.1 hq]
theorem inQ_ok {b : Bool} {Q : Bool → Prop} (hs : Hs G B ρ S H) (rx : RV G B ρ H x v) (ry : RV G B ρ H y u) (e : inQ x y S = some b) :
    (∃ (c : Nat) (z : Str), v = .str ⟨#[c]⟩ ∧ u = .str z ∧ decide (c ∈ z.cps.toList) = b) ∨ (∃ p xs, u = .ref p ∧ SqT G.K H p xs ∧ flatV v = true ∧ xs.all flatV = true ∧ inV v xs = b) ∨
      (∃ a w, u = .ref a ∧ DGet H a v w ∧ w.isSome = b) ∨ ∃ d ds, Dp G.K H v d ∧ Dp G.K H u (.list ds) ∧ SeqAt.shaped d = true ∧ SeqAt.shaped (.list ds) = true ∧ (ds.any fun z => PyData.eqv z d) = b := by
  unfold inQ at e
  split at e
  · split at e
    · split at e
      · rename_i c hc
        cases e
        exact .inl ⟨c, _, by rw [rv_str rx, sign1_ok hc], rv_str ry, rfl⟩
      · cases e
    · cases e
  · split at e
    · split at e
      · rename_i h
        cases e
        cases ry with
        | p ry =>
          cases ry with
          | tup s t =>
            cases rx with
            | p rx =>
              obtain ⟨a, b⟩ := flatP_ok rx h.1
              obtain ⟨c, d⟩ := allF_ok t h.2
              exact .inr (.inl ⟨_, _, rfl, s.sqt, b, d, by rw [a, c, inV_P h.1 h.2]⟩)
      · cases e
    · cases e
  · split at e
    · rename_i o ho
      cases e
      obtain ⟨a, w, e1, g, h⟩ := lookD_ok hs ry rx ho
      refine .inr (.inr (.inl ⟨a, w, e1, g, ?_⟩))
      rcases h with ⟨h1, h2⟩ | ⟨d, z, h1, h2, _⟩
      · rw [h1, h2]; rfl
      · rw [h1, h2]; rfl
    · split at e
      · rename_i ps q hp hq
        split at e
        · rename_i h
          cases e
          have r1 := toP_ok hs 3 ry hp
          have r2 := toP_ok hs 3 rx hq
          have o1 := okP_dp 40 _ h.1 r1
          refine .inr (.inr (.inr ⟨_, _, okP_dp 40 q h.2 r2, o1, okP_shaped (by omega) h.2, okP_shaped (by omega) h.1, ?_⟩))
          exact anyP h.2 (by simpa [okP] using h.1)
        · cases e
      · cases e
theorem op_dictIn (hu : X.A.units + 1 < cLine) : OpR X (compareOp .In) (fun x y H Q => ∃ a w, y = .ref a ∧ DGet H a x w ∧ Q (.bl w.isSome) H) := fun pins s σ H x y v u Q I rx ry ⟨a, w, e, g, q⟩ => by
  subst e
  obtain rfl : u = Value.ref a := ry
  exact d_in hu I g rx fun s' I' => ⟨.bl w.isSome, H, I', rfl, q⟩
theorem op_dictNotIn (hu : X.A.units + 1 < cLine) : OpR X (compareOp .NotIn) (fun x y H Q => ∃ a w, y = .ref a ∧ DGet H a x w ∧ Q (.bl (!w.isSome)) H) := fun pins s σ H x y v u Q I rx ry ⟨a, w, e, g, q⟩ => by
  subst e
  obtain rfl : u = Value.ref a := ry
  exact d_notIn hu I g rx fun s' I' => ⟨.bl (!w.isSome), H, I', rfl, q⟩
theorem o_in (hK : X.K = G.K) (hu : X.A.units + 65 < cLine) : OpR X (compareOp .In) (O2 G inD) :=
  OpR_imp (OpR_or (OpR_or op_in_sign op_in_seq) (OpR_or (op_dictIn (by omega)) (op_inD hu))) fun xc yc H Q ⟨B, ρ, S, x, y, z, S', hs, rx, ry, e, q⟩ => by
    unfold inD at e
    split at e
    · rename_i b hb
      cases e
      rw [hK]
      rcases inQ_ok (Q := fun _ => True) hs rx ry hb with ⟨c, z, h1, h2, h3⟩ | ⟨p, xs, h1, h2, h3, h4, h5⟩ | ⟨a, w, h1, h2, h3⟩ | ⟨d, ds, h1, h2, h3, h4, h5⟩
      · exact .inl (.inl ⟨c, z, h1, h2, by rw [h3]; exact q.p hs (.bl _)⟩)
      · refine .inl (.inr ⟨p, xs, h1, .inr h2, h3, h4, ?_⟩)
        rw [if_neg Bool.false_ne_true, h5]
        exact q.p hs (.bl _)
      · exact .inr (.inl ⟨a, w, h1, h2, by rw [h3]; exact q.p hs (.bl _)⟩)
      · exact .inr (.inr ⟨d, ds, h1, h2, h3, h4, by rw [h5]; exact q.p hs (.bl _)⟩)
    · cases e
theorem o_notin (hK : X.K = G.K) (hu : X.A.units + 65 < cLine) : OpR X (compareOp .NotIn) (O2 G notInD) :=
  OpR_imp (OpR_or (OpR_or op_notIn_sign op_notIn_seq) (OpR_or (op_dictNotIn (by omega)) (op_notInD hu))) fun xc yc H Q ⟨B, ρ, S, x, y, z, S', hs, rx, ry, e, q⟩ => by
    unfold notInD at e
    split at e
    · rename_i b hb
      cases e
      rw [hK]
      rcases inQ_ok (Q := fun _ => True) hs rx ry hb with ⟨c, z, h1, h2, h3⟩ | ⟨p, xs, h1, h2, h3, h4, h5⟩ | ⟨a, w, h1, h2, h3⟩ | ⟨d, ds, h1, h2, h3, h4, h5⟩
      · exact .inl (.inl ⟨c, z, h1, h2, by rw [h3]; exact q.p hs (.bl _)⟩)
      · refine .inl (.inr ⟨p, xs, h1, .inr h2, h3, h4, ?_⟩)
        rw [if_pos rfl, h5]
        exact q.p hs (.bl _)
      · exact .inr (.inl ⟨a, w, h1, h2, by rw [h3]; exact q.p hs (.bl _)⟩)
      · exact .inr (.inr ⟨d, ds, h1, h2, h3, h4, by rw [h5]; exact q.p hs (.bl _)⟩)
    · cases e
end

/-! ### {} -/
def mDk : ME := fun _ S => some (.loc S.length, S ++ [.dk []])
def mDt : ME := fun _ S => some (.loc S.length, S ++ [.dt []])
section
variable {X : Cx} {G : Gx} {pos : Pos}
theorem rv_last {B ρ : List Addr} {S : Sto} {H : Hp} {p : Addr} (h : ρ.length = S.length) : RV G B (ρ ++ [p]) H (.loc S.length) (.ref p) :=
  .loc (by rw [← h, List.getElem?_append_right (Nat.le_refl _), Nat.sub_self]; rfl)
theorem e_dk : PE X (.Dict [] [] pos) (RdE G mDk) := PE_imp pe_dnewK fun σc H Q ⟨B, ρ, S, σ, v, S', hs, sl, e, k⟩ p hp => by
  cases e
  exact k (ρ ++ [p]) _ _ (Fr.push hp) (hs.push hp ⟨[], upd_same, .nil⟩) (rv_last hs.len)
theorem e_dt : PE X (.Dict [] [] pos) (RdE G mDt) := PE_imp pe_dnewT fun σc H Q ⟨B, ρ, S, σ, v, S', hs, sl, e, k⟩ p hp => by
  cases e
  exact k (ρ ++ [p]) _ _ (Fr.push hp) (hs.push hp ⟨[], upd_same, .nil⟩) (rv_last hs.len)
end

/-! ### get, pop -/
def isDict (x : D) (S : Sto) : Bool := match x with
  | .loc n => (match S[n]? with
    | some (.dk _) => true
    | some (.dt _) => true
    | some (.fk _) => true
    | some (.ft _) => true
    | _ => false)
  | _ => false
def mGet2 (o k z : ME) : ME := fun σ S => match o σ S with
  | none => none
  | some (x, S1) => match isDict x S1 with
    | false => none
    | true => match k σ S1 with
      | none => none
      | some (y, S2) => match z σ S2 with
        | none => none
        | some (d, S3) => match lookD x y S3 with
          | some (some w) => some (w, S3)
          | some none => some (d, S3)
          | none => none
def mGet1 (o k : ME) : ME := fun σ S => match o σ S with
  | none => none
  | some (x, S1) => match isDict x S1 with
    | false => none
    | true => match k σ S1 with
      | none => none
      | some (y, S2) => match lookD x y S2 with
          | some (some w) => some (w, S2)
          | some none => some (.p .non, S2)
          | none => none
/-- d.pop(k): what stood there, and the rest -/
def popD1 (x y : D) (S : Sto) : Option (D × Sto) := match x with
  | .loc n => (match S[n]? with
    | some (.dk kvs) => (match keyOf y with
      | some k => (match getA k kvs with
        | some d => some (d, S.set n (.dk (delA k kvs)))
        | none => none)
      | none => none)
    | _ => none)
  | _ => none
def mPop1 (o k : ME) : ME := fun σ S => match o σ S with
  | none => none
  | some (x, S1) => match isDict x S1 with
    | false => none
    | true => match k σ S1 with
      | none => none
      | some (y, S2) => popD1 x y S2
def popD2 (x y z : D) (S : Sto) : Option (D × Sto) := match x with
  | .loc n => (match S[n]? with
    | some (.dk kvs) => (match keyOf y with
      | some k => (match getA k kvs with
        | some d => some (d, S.set n (.dk (delA k kvs)))
        | none => some (z, S))
      | none => none)
    | _ => none)
  | _ => none
def mPop2 (o k z : ME) : ME := fun σ S => match o σ S with
  | none => none
  | some (x, S1) => match isDict x S1 with
    | false => none
    | true => match k σ S1 with
      | none => none
      | some (y, S2) => match z σ S2 with
        | none => none
        | some (d, S3) => popD2 x y d S3
section
variable {X : Cx} {G : Gx} {o e f : Expr} {mo mk mz : ME} {apos cpos : Pos}
theorem isDict_ok {B ρ : List Addr} {S : Sto} {H : Hp} {x : D} {v : V} (hs : Hs G B ρ S H) (r : RV G B ρ H x v) (h : isDict x S = true) : ∃ a, v = .ref a ∧ IsD H a := by
  unfold isDict at h
  split at h
  · split at h
    · rename_i hn
      obtain ⟨a, rfl, _, vs, e, _⟩ := hs.at_loc r hn
      exact ⟨a, rfl, .inl ⟨vs, .inl e⟩⟩
    · rename_i hn
      obtain ⟨a, rfl, _, vs, e, _⟩ := hs.at_loc r hn
      exact ⟨a, rfl, .inr ⟨vs, .inl e⟩⟩
    · rename_i hn
      obtain ⟨a, rfl, _, o, vs, e, _⟩ := hs.at_loc r hn
      exact ⟨a, rfl, .inl ⟨vs, .inr ⟨o, e⟩⟩⟩
    · rename_i hn
      obtain ⟨a, rfl, _, o, vs, e, _⟩ := hs.at_loc r hn
      exact ⟨a, rfl, .inr ⟨vs, .inr ⟨o, e⟩⟩⟩
    · cases h
  · cases h
theorem e_get2 (hu : X.A.units + 1 < cLine) (ho : PE X o (RdE G mo)) (he : PE X e (RdE G mk)) (hf : PE X f (RdE G mz)) (m : M2 X o "get" apos e f cpos) : PE X (.Call (.Attribute o "get" apos) [e, f] [] cpos) (RdE G (mGet2 mo mk mz)) :=
  PE_imp (pe_dget2 hu ho he hf m) fun σc H Q ⟨B, ρ, S, σ, v, S', hs, sl, e, k⟩ => by
    unfold mGet2 at e
    cases ea : mo σ S with
    | none => rw [ea] at e; cases e
    | some p =>
      obtain ⟨x, S1⟩ := p
      simp only [ea] at e
      cases ed : isDict x S1 with
      | false => rw [ed] at e; cases e
      | true =>
        simp only [ed] at e
        cases eb : mk σ S1 with
        | none => rw [eb] at e; cases e
        | some p =>
          obtain ⟨y, S2⟩ := p
          simp only [eb] at e
          cases ec : mz σ S2 with
          | none => rw [ec] at e; cases e
          | some p =>
            obtain ⟨d, S3⟩ := p
            simp only [ec] at e
            refine ⟨B, ρ, S, σ, x, S1, hs, sl, ea, fun ρ1 xc H1 f1 hs1 r1 => ?_⟩
            obtain ⟨a, rfl, hd⟩ := isDict_ok hs1 r1 ed
            refine ⟨a, rfl, hd, B, ρ1, S1, σ, y, S2, hs1, sl.mono f1 hs, eb, fun ρ2 yc H2 f2 hs2 r2 => ⟨B, ρ2, S2, σ, d, S3, hs2, (sl.mono f1 hs).mono f2 hs1, ec, fun ρ3 zc H3 f3 hs3 r3 => ?_⟩⟩
            have ra := (r1.mono f2 hs1).mono f3 hs2
            have rb := r2.mono f3 hs2
            cases el : lookD x y S3 with
            | none => rw [el] at e; cases e
            | some w =>
              obtain ⟨a', w', e1, g, h⟩ := lookD_ok hs3 ra rb el
              cases e1
              refine ⟨w', g, ?_⟩
              have k3 := Po.step ((f1.trans f2).trans f3) k
              rcases h with ⟨h1, h2⟩ | ⟨d', z', h1, h2, h3⟩
              · subst h1 h2
                simp only [el] at e
                cases e
                exact Po.here hs3 k3 r3
              · subst h1 h2
                simp only [el] at e
                cases e
                exact Po.here hs3 k3 h3
theorem e_get1 (hu : X.A.units + 1 < cLine) (ho : PE X o (RdE G mo)) (he : PE X e (RdE G mk)) (m : M1 X o "get" apos e cpos) : PE X (.Call (.Attribute o "get" apos) [e] [] cpos) (RdE G (mGet1 mo mk)) :=
  PE_imp (pe_dget1 hu ho he m) fun σc H Q ⟨B, ρ, S, σ, v, S', hs, sl, e, k⟩ => by
    unfold mGet1 at e
    cases ea : mo σ S with
    | none => rw [ea] at e; cases e
    | some p =>
      obtain ⟨x, S1⟩ := p
      simp only [ea] at e
      cases ed : isDict x S1 with
      | false => rw [ed] at e; cases e
      | true =>
        simp only [ed] at e
        cases eb : mk σ S1 with
        | none => rw [eb] at e; cases e
        | some p =>
          obtain ⟨y, S2⟩ := p
          simp only [eb] at e
          refine ⟨B, ρ, S, σ, x, S1, hs, sl, ea, fun ρ1 xc H1 f1 hs1 r1 => ?_⟩
          obtain ⟨a, rfl, hd⟩ := isDict_ok hs1 r1 ed
          refine ⟨a, rfl, hd, B, ρ1, S1, σ, y, S2, hs1, sl.mono f1 hs, eb, fun ρ2 yc H2 f2 hs2 r2 => ?_⟩
          have ra := r1.mono f2 hs1
          cases el : lookD x y S2 with
          | none => rw [el] at e; cases e
          | some w =>
            obtain ⟨a', w', e1, g, h⟩ := lookD_ok hs2 ra r2 el
            cases e1
            refine ⟨w', g, ?_⟩
            have k3 := Po.step (f1.trans f2) k
            rcases h with ⟨h1, h2⟩ | ⟨d', z', h1, h2, h3⟩
            · subst h1 h2
              simp only [el] at e
              cases e
              exact Po.here hs2 k3 (.p .non)
            · subst h1 h2
              simp only [el] at e
              cases e
              exact Po.here hs2 k3 h3
theorem Po.setK {B ρ : List Addr} {S : Sto} {H : Hp} {n : Nat} {a : Addr} {ds : List (Key × D)} {vs ws : List (Key × V)} {Q : VK} {z : D} {zv : V} (hs : Hs G B ρ S H) (ha : ρ[n]? = some a) (e : H a = some (.dK ws)) (r : RK G B ρ H ds vs) (rz : RV G B ρ H z zv) (k : Po G B ρ H z (S.set n (.dk ds)) Q) : Q zv (upd H a (.dK vs)) := by
  have f : Fr ρ H ρ (upd H a (.dK vs)) := Fr.put (List.mem_of_getElem? ha) (nofz e)
  exact k ρ _ _ f (hs.put ha (nofz e) ⟨vs, upd_same, r.mono f hs⟩) (rz.mono f hs)
theorem e_pop1 (ho : PE X o (RdE G mo)) (he : PE X e (RdE G mk)) (m : M1 X o "pop" apos e cpos) : PE X (.Call (.Attribute o "pop" apos) [e] [] cpos) (RdE G (mPop1 mo mk)) :=
  PE_imp (pe_dpop1 ho he m) fun σc H Q ⟨B, ρ, S, σ, v, S', hs, sl, e, k⟩ => by
    unfold mPop1 at e
    cases ea : mo σ S with
    | none => rw [ea] at e; cases e
    | some p =>
      obtain ⟨x, S1⟩ := p
      simp only [ea] at e
      cases ed : isDict x S1 with
      | false => rw [ed] at e; cases e
      | true =>
        simp only [ed] at e
        cases eb : mk σ S1 with
        | none => rw [eb] at e; cases e
        | some p =>
          obtain ⟨y, S2⟩ := p
          simp only [eb] at e
          refine ⟨B, ρ, S, σ, x, S1, hs, sl, ea, fun ρ1 xc H1 f1 hs1 r1 => ?_⟩
          obtain ⟨a, rfl, hd⟩ := isDict_ok hs1 r1 ed
          refine ⟨a, rfl, hd, B, ρ1, S1, σ, y, S2, hs1, sl.mono f1 hs, eb, fun ρ2 yc H2 f2 hs2 r2 => ?_⟩
          have ra := r1.mono f2 hs1
          unfold popD1 at e
          split at e
          · split at e
            · rename_i kvs hn
              split at e
              · rename_i key hk
                split at e
                · rename_i d hd'
                  cases e
                  obtain ⟨a', q, ha, vs, h1, t⟩ := hs2.at_loc ra hn
                  cases q
                  obtain ⟨w, h2, h3⟩ := t.get_some hd'
                  exact ⟨vs, key, w, h1, keyOf_ok r2 hk, h2, Po.setK hs2 ha h1 (t.del key) h3 (Po.step (f1.trans f2) k)⟩
                · cases e
              · cases e
            · cases e
          · cases e
theorem e_pop2 (ho : PE X o (RdE G mo)) (he : PE X e (RdE G mk)) (hf : PE X f (RdE G mz)) (m : M2 X o "pop" apos e f cpos) : PE X (.Call (.Attribute o "pop" apos) [e, f] [] cpos) (RdE G (mPop2 mo mk mz)) :=
  PE_imp (pe_dpop2 ho he hf m) fun σc H Q ⟨B, ρ, S, σ, v, S', hs, sl, e, k⟩ => by
    unfold mPop2 at e
    cases ea : mo σ S with
    | none => rw [ea] at e; cases e
    | some p =>
      obtain ⟨x, S1⟩ := p
      simp only [ea] at e
      cases ed : isDict x S1 with
      | false => rw [ed] at e; cases e
      | true =>
        simp only [ed] at e
        cases eb : mk σ S1 with
        | none => rw [eb] at e; cases e
        | some p =>
          obtain ⟨y, S2⟩ := p
          simp only [eb] at e
          cases ec : mz σ S2 with
          | none => rw [ec] at e; cases e
          | some p =>
            obtain ⟨d, S3⟩ := p
            simp only [ec] at e
            refine ⟨B, ρ, S, σ, x, S1, hs, sl, ea, fun ρ1 xc H1 f1 hs1 r1 => ?_⟩
            obtain ⟨a, rfl, hd⟩ := isDict_ok hs1 r1 ed
            refine ⟨a, rfl, hd, B, ρ1, S1, σ, y, S2, hs1, sl.mono f1 hs, eb, fun ρ2 yc H2 f2 hs2 r2 => ⟨B, ρ2, S2, σ, d, S3, hs2, (sl.mono f1 hs).mono f2 hs1, ec, fun ρ3 zc H3 f3 hs3 r3 => ?_⟩⟩
            have ra := (r1.mono f2 hs1).mono f3 hs2
            have rb := r2.mono f3 hs2
            have k3 := Po.step ((f1.trans f2).trans f3) k
            unfold popD2 at e
            split at e
            · split at e
              · rename_i kvs hn
                split at e
                · rename_i key hk
                  obtain ⟨a', q, ha, vs, h1, t⟩ := hs3.at_loc ra hn
                  cases q
                  refine ⟨vs, key, h1, keyOf_ok rb hk, fun w hw => ?_, fun hw => ?_⟩
                  · rcases t.get key with ⟨c1, c2⟩ | ⟨d', w', c1, c2, c3⟩
                    · rw [c2] at hw; cases hw
                    · rw [c2] at hw
                      cases hw
                      rw [c1] at e
                      cases e
                      exact Po.setK hs3 ha h1 (t.del key) c3 k3
                  · rcases t.get key with ⟨c1, c2⟩ | ⟨d', w', c1, c2, c3⟩
                    · rw [c1] at e
                      cases e
                      exact Po.here hs3 k3 r3
                    · rw [c2] at hw; cases hw
                · cases e
              · cases e
            · cases e
end
end Rf
end

section
set_option Elab.async false
set_option linter.all false
set_option maxRecDepth 100000
set_option maxHeartbeats 4000000
/-! Rf13: instances: attributes, methods, new ones. -/
namespace Rf
open PySem L2

def fldA (f : Str) : List (Str × D) → Option D
  | [] => none
  | (g, d) :: r => if f == g then some d else fldA f r
def putFA (f : Str) (d : D) : List (Str × D) → List (Str × D)
  | [] => [(f, d)]
  | (g, e) :: r => if g = f then (g, d) :: r else (g, e) :: putFA f d r
section
variable {G : Gx} {B ρ : List Addr} {S : Sto} {H : Hp}
theorem RK.fld {f : Str} : ∀ {ds : List (Str × D)} {vs : List (Str × V)} {d : D}, RK G B ρ H ds vs → fldA f ds = some d → ∃ v, vs.lookup f = some v ∧ RV G B ρ H d v
  | _, _, _, .nil, e => by cases e
  | _, _, d, .cons (k := g) r t, e => by
    unfold fldA at e
    split at e
    · rename_i h
      cases e
      exact ⟨_, by rw [List.lookup_cons, h], r⟩
    · rename_i h
      obtain ⟨v, h1, h2⟩ := RK.fld t e
      exact ⟨v, by rw [List.lookup_cons, eq_false_of_ne_true h]; exact h1, h2⟩
theorem RK.nofld {f : Str} : ∀ {ds : List (Str × D)} {vs : List (Str × V)}, RK G B ρ H ds vs → fldA f ds = none → vs.lookup f = none
  | _, _, .nil, e => rfl
  | _, _, .cons (k := g) r t, e => by
    unfold fldA at e
    split at e
    · cases e
    · rename_i h
      rw [List.lookup_cons, eq_false_of_ne_true h]
      exact RK.nofld t e
theorem RK.putF {f : Str} {d : D} {v : V} (q : RV G B ρ H d v) : ∀ {ds : List (Str × D)} {vs : List (Str × V)}, RK G B ρ H ds vs → RK G B ρ H (putFA f d ds) (L2.putF f v vs)
  | _, _, .nil => .cons q .nil
  | _, _, .cons (k := g) r t => by
    unfold putFA L2.putF
    by_cases h : g = f
    · rw [if_pos h, if_pos h]
      exact .cons q t
    · rw [if_neg h, if_neg h]
      exact .cons r (RK.putF q t)
end
/-- the attribute f of an instance of a class that is ok -/
def getF (ok : Nat → Bool) (f : Str) (x : D) (S : Sto) : Option D := match x with
  | .loc n => (match S[n]? with
    | some (.ins c fs) => if ok c = true then fldA f fs else none
    | _ => none)
  | _ => none
def setFld (ok : Nat → Bool) (f : Str) (x d : D) (S : Sto) : Option Sto := match x with
  | .loc n => (match S[n]? with
    | some (.ins c fs) => if ok c = true ∧ fs.length < 1000 then some (S.set n (.ins c (putFA f d fs))) else none
    | _ => none)
  | _ => none
def mFld (ok : Nat → Bool) (f : Str) (o : ME) : ME := fun σ S => match o σ S with
  | none => none
  | some (x, S1) => match getF ok f x S1 with
    | some d => some (d, S1)
    | none => none
def sFldW (ok : Nat → Bool) (f : Str) (o v : ME) : MS := fun σ S => match v σ S with
  | none => none
  | some (d, S1) => match o σ S1 with
    | none => none
    | some (x, S2) => match setFld ok f x d S2 with
      | some S3 => some (.nx, σ, S3)
      | none => none
def sFldAugW (ok : Nat → Bool) (f : Str) (g : F2) (o v : ME) : MS := fun σ S => match o σ S with
  | none => none
  | some (x, S1) => match getF ok f x S1 with
    | none => none
    | some d => match v σ S1 with
      | none => none
      | some (y, S2) => match g d y S2 with
        | none => none
        | some (z, S3) => match setFld ok f x z S3 with
          | some S4 => some (.nx, σ, S4)
          | none => none
/-- f of such a class is no attribute of the class -/
def FldOk (K : PySem.W.Frag) (G : Gx) (ok : Nat → Bool) (f : Str) : Prop := ∀ c, ok c = true → Cls K (G.ca c) ∧ NoAttr K (G.ca c) f
section
variable {X : Cx} {G : Gx} {o e value : Expr} {f : Str} {pos pos' tpos : Pos} {mo mv : ME} {ok : Nat → Bool} {g : F2}
theorem getF_ok {B ρ : List Addr} {S : Sto} {H : Hp} {x d : D} {v : V} (hs : Hs G B ρ S H) (r : RV G B ρ H x v) (h : getF ok f x S = some d) :
    ∃ a c dx fs w, v = .ref a ∧ H a = some (.ins (G.ca c) dx fs) ∧ ok c = true ∧ fs.lookup f = some w ∧ RV G B ρ H d w := by
  unfold getF at h
  split at h
  · split at h
    · rename_i c fs hn
      split at h
      · rename_i hc
        obtain ⟨a, rfl, ha, dx, vs, e, t⟩ := hs.at_loc r hn
        obtain ⟨w, h1, h2⟩ := t.fld h
        exact ⟨a, c, dx, vs, w, rfl, e, hc, h1, h2⟩
      · cases h
    · cases h
  · cases h
theorem setFld_ok {B ρ : List Addr} {S S' : Sto} {H : Hp} {x d : D} {v w : V} (hs : Hs G B ρ S H) (r : RV G B ρ H x v) (rd : RV G B ρ H d w) (h : setFld ok f x d S = some S') :
    ∃ a c dx fs, v = .ref a ∧ H a = some (.ins (G.ca c) dx fs) ∧ ok c = true ∧ fs.length < 1000 ∧ Fr ρ H ρ (upd H a (.ins (G.ca c) dx (putF f w fs))) ∧ Hs G B ρ S' (upd H a (.ins (G.ca c) dx (putF f w fs))) := by
  unfold setFld at h
  split at h
  · split at h
    · rename_i c fs hn
      split at h
      · rename_i hc
        cases h
        obtain ⟨a, rfl, ha, dx, vs, e, t⟩ := hs.at_loc r hn
        have fr : Fr ρ H ρ (upd H a (.ins (G.ca c) dx (putF f w vs))) := Fr.put (List.mem_of_getElem? ha) (nofz e)
        exact ⟨a, c, dx, vs, rfl, e, hc.1, by rw [← t.length]; exact hc.2, fr, hs.put ha (nofz e) ⟨dx, _, upd_same, (t.putF rd).mono fr hs⟩⟩
      · cases h
    · cases h
  · cases h
theorem e_fld (hf : FldOk X.K G ok f) (he : PE X o (RdE G mo)) (hb : attributeBase o f X.env (eval o X.env) = eval o X.env := by rfl) : PE X (.Attribute o f pos) (RdE G (mFld ok f mo)) :=
  PE_imp (pe_fld he hb) fun σc H Q ⟨B, ρ, S, σ, v, S', hs, sl, e, k⟩ => by
    unfold mFld at e
    cases ea : mo σ S with
    | none => rw [ea] at e; cases e
    | some p =>
      obtain ⟨x, S1⟩ := p
      simp only [ea] at e
      split at e
      · rename_i d hd
        cases e
        refine ⟨B, ρ, S, σ, x, _, hs, sl, ea, fun ρ1 xc H1 f1 hs1 r1 => ?_⟩
        obtain ⟨a, c, dx, fs, w, rfl, e1, hc, h1, h2⟩ := getF_ok hs1 r1 hd
        exact ⟨a, _, dx, fs, w, rfl, e1, (hf c hc).1, (hf c hc).2, h1, k ρ1 w H1 f1 hs1 h2⟩
      · cases e
theorem s_fld (hf : FldOk X.K G ok f) (ha : PE X o (RdE G mo)) (hv : PE X value (RdE G mv)) (hs : swapsWith value (some (.Attribute o f pos')) pos.line X.env = pure false) : PS X (.Assign [.Attribute o f pos'] value pos) (RdS G (sFldW ok f mo mv)) :=
  PS_imp (ps_fld ha hv hs) fun D σc H ⟨B, ρ, S, σ, fl, σ', S', hs, sl, e, k⟩ => by
    unfold sFldW at e
    cases ea : mv σ S with
    | none => rw [ea] at e; cases e
    | some p =>
      obtain ⟨d, S1⟩ := p
      simp only [ea] at e
      cases eb : mo σ S1 with
      | none => rw [eb] at e; cases e
      | some p =>
        obtain ⟨x, S2⟩ := p
        simp only [eb] at e
        split at e
        · rename_i S3 h3
          cases e
          refine ⟨B, ρ, S, σ, d, S1, hs, sl, ea, fun ρ1 yc H1 f1 hs1 r1 => ⟨B, ρ1, S1, σ, x, S2, hs1, sl.mono f1 hs, eb, fun ρ2 xc H2 f2 hs2 r2 => ?_⟩⟩
          obtain ⟨a, c, dx, fs, rfl, e1, hc, hl, f3, hs3⟩ := setFld_ok hs2 r2 (r1.mono f2 hs1) h3
          exact ⟨a, _, dx, fs, rfl, e1, (hf c hc).1, (hf c hc).2, hl, k ρ2 σc _ ((f1.trans f2).trans f3) hs3 (((sl.mono f1 hs).mono f2 hs1).mono f3 hs2)⟩
        · cases e
/-- the one class -/
def onlyC (c0 : Nat) : Nat → Bool := fun k => k == c0
theorem s_fldaug {op : Operator} {c0 : Nat} (hf : FldOk X.K G (onlyC c0) f) (ha : PE X o (RdE G mo)) (hv : PE X value (RdE G mv)) (hop : InOp X op (O2 G g)) : PS X (.AugAssign (.Attribute o f tpos) op value pos) (RdS G (sFldAugW (onlyC c0) f g mo mv)) :=
  PS_imp (ps_fldaug ha hv hop) fun D σc H ⟨B, ρ, S, σ, fl, σ', S', hs, sl, e, k⟩ => by
    unfold sFldAugW at e
    cases ea : mo σ S with
    | none => rw [ea] at e; cases e
    | some p =>
      obtain ⟨x, S1⟩ := p
      simp only [ea] at e
      cases eg : getF (onlyC c0) f x S1 with
      | none => rw [eg] at e; cases e
      | some d =>
        simp only [eg] at e
        cases eb : mv σ S1 with
        | none => rw [eb] at e; cases e
        | some p =>
          obtain ⟨y, S2⟩ := p
          simp only [eb] at e
          cases ec : g d y S2 with
          | none => rw [ec] at e; cases e
          | some p =>
            obtain ⟨z, S3⟩ := p
            simp only [ec] at e
            split at e
            · rename_i S4 h4
              cases e
              refine ⟨B, ρ, S, σ, x, S1, hs, sl, ea, fun ρ1 xc H1 f1 hs1 r1 => ?_⟩
              obtain ⟨a, c, dx, fs, w, rfl, e1, hc, h1, h2⟩ := getF_ok hs1 r1 eg
              refine ⟨a, _, dx, fs, w, rfl, e1, (hf c hc).1, (hf c hc).2, h1, B, ρ1, S1, σ, y, S2, hs1, sl.mono f1 hs, eb, fun ρ2 yc H2 f2 hs2 r2 => ?_⟩
              refine ⟨B, ρ2, S2, d, y, z, S3, hs2, h2.mono f2 hs1, r2, ec, fun ρ3 zc H3 f3 hs3 r3 => ?_⟩
              obtain ⟨a', c', dx', fs', q, e1', hc', hl, f4, hs4⟩ := setFld_ok hs3 ((r1.mono f2 hs1).mono f3 hs2) r3 h4
              cases q
              have q1 : c = c0 := eq_of_beq hc
              have q2 : c' = c0 := eq_of_beq hc'
              subst q1 q2
              exact ⟨dx', fs', e1', hl, k ρ3 σc _ (((f1.trans f2).trans f3).trans f4) hs4 ((((sl.mono f1 hs).mono f2 hs1).mono f3 hs2).mono f4 hs3)⟩
            · cases e
end

/-! ### methods and new instances -/
/-- a method as it stands -/
structure MethOk (P : Program) (w : World) (K : PySem.W.Frag) (mg : Str → Option Value) (base : Heap) (C : Addr) (m : Str) (k : Nat) (sp : Sp) : Prop where
  ex : ∃ (f : Addr) (fd : FuncData) (ps : List Str), FnOk P w K mg base CX0 k f fd ps sp ∧ Cls K C ∧ Meth K C m f ∧ Binds K fd ps []
structure MakeOk (P : Program) (w : World) (K : PySem.W.Frag) (mg : Str → Option Value) (base : Heap) (x : Str) (C : Addr) (k : Nat) (sp : Sp) : Prop where
  ex : ∃ (f : Addr) (fd : FuncData) (ps : List Str), FnOk P w K mg base CX0 k f fd ps sp ∧ mg x = some (.ref C) ∧ Mk K C f ∧ Binds K fd ps []
def isIns (c0 : Nat) (m : Str) (x : D) (S : Sto) : Bool := match x with
  | .loc n => (match S[n]? with
    | some (.ins c fs) => c == c0 && (fldA m fs).isNone
    | _ => false)
  | _ => false
def mMeth (c0 : Nat) (m : Str) (mf : FL) (o : ME) (a : MA) : ME := fun σ S => match o σ S with
  | none => none
  | some (x, S1) => match isIns c0 m x S1 with
    | false => none
    | true => match a σ S1 with
      | none => none
      | some (ds, S2) => mf (x :: ds) S2
def mMake (c0 : Nat) (mf : FL) (a : MA) : ME := fun σ S => match a σ S with
  | none => none
  | some (ds, S1) => match mf (.loc S1.length :: ds) (S1 ++ [.ins c0 []]) with
    | some (.p .non, S2) => some (.loc S1.length, S2)
    | _ => none
section
variable {X : Cx} {G : Gx} {o e : Expr} {es : List Expr} {m x : Str} {c0 k : Nat} {mm : FL} {mo : ME} {ma : MA} {apos pos p : Pos} {pl : Sem Bool}
theorem isIns_ok {B ρ : List Addr} {S : Sto} {H : Hp} {x : D} {v : V} (hs : Hs G B ρ S H) (r : RV G B ρ H x v) (h : isIns c0 m x S = true) : ∃ a dx fs, v = .ref a ∧ H a = some (.ins (G.ca c0) dx fs) ∧ fs.lookup m = none := by
  unfold isIns at h
  split at h
  · split at h
    · rename_i c fs hn
      obtain ⟨a, rfl, ha, dx, vs, e, t⟩ := hs.at_loc r hn
      rw [Bool.and_eq_true] at h
      have q : c = c0 := eq_of_beq h.1
      subst q
      exact ⟨a, dx, vs, rfl, e, t.nofld (Option.isNone_iff_eq_none.mp h.2)⟩
    · cases h
  · cases h
theorem RdE_meth {σc : L2.St} {H : Hp} {Q : VK} (h : RdE G (mMeth c0 m mm mo ma) σc H Q) : RdE G mo σc H fun x H1 => ∃ a dx fs, x = .ref a ∧ H1 a = some (.ins (G.ca c0) dx fs) ∧ fs.lookup m = none ∧ RdA G ma σc H1 fun vs H2 => OL G mm (x :: (vs ++ [])) H2 Q := by
  obtain ⟨B, ρ, S, σ, v, S', hs, sl, e, k⟩ := h
  unfold mMeth at e
  cases ea : mo σ S with
  | none => rw [ea] at e; cases e
  | some p =>
    obtain ⟨x, S1⟩ := p
    simp only [ea] at e
    cases ed : isIns c0 m x S1 with
    | false => rw [ed] at e; cases e
    | true =>
      simp only [ed] at e
      cases eb : ma σ S1 with
      | none => rw [eb] at e; cases e
      | some p =>
        obtain ⟨ds, S2⟩ := p
        simp only [eb] at e
        refine ⟨B, ρ, S, σ, x, S1, hs, sl, ea, fun ρ1 xc H1 f1 hs1 r1 => ?_⟩
        obtain ⟨a, dx, fs, rfl, e1, l⟩ := isIns_ok hs1 r1 ed
        exact ⟨a, dx, fs, rfl, e1, l, B, ρ1, S1, σ, ds, S2, hs1, sl.mono f1 hs, eb, fun ρ2 vs H2 f2 hs2 r2 => by
          show OL G mm (V.ref a :: (vs ++ [])) H2 Q
          rw [List.append_nil]
          exact ⟨B, ρ2, S2, x :: ds, v, S', hs2, .cons (r1.mono f2 hs1) r2, e, Po.step (f1.trans f2) k⟩⟩
theorem e_meth (M : MethOk X.prog X.w X.K X.mg X.base (G.ca c0) m k (SpM G mm)) (hr : Room k X.A) (ho : PE X o (RdE G mo)) (ha : PA X (e :: es) (RdA G ma))
    (hst : starEach (e :: es) X.env = (false, eval e X.env) :: starEach es X.env := by rfl) (hpl : (backTo pos (starEach es X.env)).any (·.1) = false := by rfl)
    (ht : eval (.Call (.Attribute o m apos) (e :: es) [] pos) X.env = (do
      let ov ← eval o X.env
      standAt apos.atName
      let (f, first) ← holding [ov] (getMethod ov m pl)
      callWith pos f first (backTo pos (starEach (e :: es) X.env)) (backToKw pos (keywordEach [] X.env))) := by rfl) :
    PE X (.Call (.Attribute o m apos) (e :: es) [] pos) (RdE G (mMeth c0 m mm mo ma)) := by
  obtain ⟨f, fd, ps, F, hc, hm, hb⟩ := M.ex
  exact PE_imp (pe_meth ho hc hm F hr hb .nil pass0 ha hst hpl ht) fun σc H Q h => RdE_meth h
theorem e_meth0 (M : MethOk X.prog X.w X.K X.mg X.base (G.ca c0) m k (SpM G mm)) (hr : Room k X.A) (ho : PE X o (RdE G mo))
    (ht : eval (.Call (.Attribute o m apos) [] [] pos) X.env = (do
      let ov ← eval o X.env
      standAt apos.atName
      let (f, first) ← holding [ov] (getMethod ov m pl)
      callWith pos f first (backTo pos (starEach [] X.env)) (backToKw pos (keywordEach [] X.env))) := by rfl) :
    PE X (.Call (.Attribute o m apos) [] [] pos) (RdE G (mMeth c0 m mm mo mNil)) := by
  obtain ⟨f, fd, ps, F, hc, hm, hb⟩ := M.ex
  refine PE_imp (pe_meth0 ho hc hm F hr hb .nil pass0 ht) fun σc H Q h => ?_
  obtain ⟨B, ρ, S, σ, x, S1, hs, sl, ea, k⟩ := RdE_meth h
  refine ⟨B, ρ, S, σ, x, S1, hs, sl, ea, fun ρ1 xc H1 f1 hs1 r1 => ?_⟩
  obtain ⟨a, dx, fs, h1, h2, h3, B2, ρ2, S2, σ2, xs, S3, hs2, sl2, e2, k2⟩ := k ρ1 xc H1 f1 hs1 r1
  cases e2
  exact ⟨a, dx, fs, h1, h2, h3, k2 ρ2 [] H1 Fr.refl hs2 .nil⟩
theorem e_make (M : MakeOk X.prog X.w X.K X.mg X.base x (G.ca c0) k (SpM G mm)) (hr : Room (k + 1) X.A) (hg : Gl X x) (ha : PA X (e :: es) (RdA G ma)) (hdb : (x == ("__debug__" : Str)) = false := by decide)
    (he : starEach (e :: es) X.env = (false, eval e X.env) :: starEach es X.env := by rfl) (hpl : (backTo pos (starEach es X.env)).any (·.1) = false := by rfl) :
    PE X (.Call (.Name x p) (e :: es) [] pos) (RdE G (mMake c0 mm ma)) := by
  obtain ⟨f, fd, ps, F, hm, hk, hb⟩ := M.ex
  refine PE_imp (pe_make hk F hr hg hm hb .nil pass0 ha hdb he hpl) fun σc H Q ⟨B, ρ, S, σ, v, S', hs, sl, e, k⟩ => ?_
  unfold mMake at e
  cases ea : ma σ S with
  | none => rw [ea] at e; cases e
  | some q =>
    obtain ⟨ds, S1⟩ := q
    simp only [ea] at e
    split at e
    · rename_i S2 h2
      cases e
      refine ⟨B, ρ, S, σ, ds, S1, hs, sl, ea, fun ρ1 vs H1 f1 hs1 r1 a dx hx hdx ne => ?_⟩
      rw [List.append_nil]
      have fa : Fr ρ1 H1 ρ1 (upd H1 dx (.own a)) := Fr.laid hdx
      have hsa := hs1.laid (o := .own a) hdx
      have hx2 : upd H1 dx (.own a) a = none := by rw [upd_ne (fun z => ne z.symm)]; exact hx
      have fb : Fr ρ1 (upd H1 dx (.own a)) (ρ1 ++ [a]) (upd (upd H1 dx (.own a)) a (.ins (G.ca c0) dx [])) := Fr.push hx2
      have hsb := hsa.push (o := .ins (G.ca c0) dx []) (u := .ins c0 []) hx2 ⟨dx, [], upd_same, .nil⟩
      refine ⟨B, ρ1 ++ [a], _, _, _, _, hsb, .cons (rv_last hs1.len) ((r1.mono fa hs1).mono fb hsa), h2, fun ρ3 vc H3 f3 hs3 r3 => ⟨rv_non r3, ?_⟩⟩
      exact k ρ3 _ H3 (((f1.trans fa).trans fb).trans f3) hs3 (RV.mono f3 hsb (rv_last hs1.len))
    · cases e
end
end Rf
end

section
set_option Elab.async false
set_option linter.all false
set_option maxRecDepth 100000
set_option maxHeartbeats 4000000
/-! Rf14: dicts with tuple keys: pop(k), displays; += of ints. -/
namespace Rf
open PySem L2 PyProof.Rows DT

/-! ### pop(k) where the key is there -/
section
variable {prog : Program} {w : World} {KK : Type} [DecidableEq KK] {knd : HeapKind prog w KK}
theorem meetsPop1 {d b : Addr} {k : KK} (hd : (d == sysModules) = false) :
    MeetsIn prog w (Builtin.«dict.pop» ⟨[.ref d, .ref b], []⟩) (fun A R s => ∃ xs p, knd.room A.in1 ∧ knd.is s.heap k b ∧ s.heap.DictOfH knd d xs ∧ xs.length ≤ sizeLine ∧ atKey xs k = some p ∧
      ∀ h' tk, h'.DictOfH knd d (dropH xs k) → Heap.SameBut d s.heap h' → R (.ok (.ret p.2)) { s with heap := h', toks := tk }) :=
  .of_wp fun A R s ⟨xs, p, room, key, dict, size, there, done⟩ => by
    obtain ⟨o, es, ep, ho, hc, hdat, he, his, hn⟩ := id dict
    have len : es.size = xs.length := size_of_entries he
    have nokey : (keyPart (Value.ref b)).isSome = false := rfl
    unfold Builtin.«dict.pop» Builtin.Dict.keyAndDefault
    refine wpAny_bind (wpAny_bind (wpAny_notOrdered_dict dict.typeIs (wpAny_pure ?_)))
    simp only [nokey, Bool.false_eq_true, if_false]
    refine wpAny_bind (wpAny_dictEntries ho hdat (wpAny_bind (wpAny_pure ?_)))
    have some1 : es.isEmpty = false := by
      cases hem : es.isEmpty with
      | false => rfl
      | true =>
        have zero : es.size = 0 := by simpa using hem
        have nil : xs = [] := List.length_eq_zero_iff.mp (by omega)
        rw [nil] at there
        cases there
    rw [some1]
    simp only [Bool.false_eq_true, if_false]
    refine wpAny_bind (takeH room key dict size (fun hno => ?_) fun p' e hp hev h' hm' hs' => ?_)
    · rw [there] at hno
      cases hno
    · rw [there] at hp
      cases hp
      simp only [Option.isNone_some, Bool.false_eq_true, if_false]
      exact wpAny_bind (wpAny_letGo (wpAny_pure ⟨e.val, rfl, by rw [hev]; exact done h' _ hm' hs'⟩))
end
section
variable {X : Cx} {G : Gx} {o e : Expr} {mo mk : ME} {apos cpos : Pos}
def rPop1T : V → List V → Hp → VK → Prop := fun x xs H Q => ∃ (a : Addr) (kvs : List (List Key × V)) (k : List Key) (b : Addr) (v : V), x = .ref a ∧ xs = [.ref b] ∧ H a = some (.dT kvs) ∧ H b = some (.tup (k.map kV)) ∧ valV kvs k = some v ∧ Q v (upd H a (.dT (dropK kvs k)))
theorem mt_pop1T (hu : X.A.units + 1 < cLine) : MtR X "dict.pop" rPop1T := by
  intro pins s σ H x xs v us Q I rx rxs ⟨a, kvs, k, b, d, e1, e2, ha, hb, hv, q⟩
  subst e1 e2
  obtain ⟨u1, rfl, r1⟩ := vals1 rxs
  cases rx
  cases r1
  obtain ⟨z, nsys, xs', rel, dd⟩ := dt_of I.hok ha
  have r := rel.val k
  rw [hv] at r
  obtain ⟨p, hp, rv⟩ : ∃ p, atKey xs' k = some p ∧ RelV d p.2 := by
    cases ev : atKey xs' k with
    | none => rw [ev] at r; exact r.elim
    | some p => rw [ev] at r; exact ⟨p, rfl, r⟩
  refine call_meetsIn PySem.F.slot_dict_pop dd.typeIs PySem.F.entry_dict_pop (PySem.F.args_dict_pop_2 _ _) (meetsPop1 (knd := tupleKind (mixKind X.prog X.w)) (k := k) nsys)
    ⟨xs', p, tupleKind_room_in1 hu, key_of I.hok hb, dd, by rw [← Paired.length rel]; exact z, hp, fun h' tk dd' hs => ?_⟩
  obtain ⟨o, es, ep, hq, h2, h3, h4, _, h5⟩ := dd'
  have same : ∀ c ys, H c = some (.tup ys) → upd H a (.dT (dropK kvs k)) c = some (.tup ys) := fun c ys ec => by
    rw [upd_ne (ne_of ec ha (fun z => nomatch z))]
    exact ec
  exact ⟨d, _, d_write (t' := tk) (ob := .dT (dropK kvs k)) I (by rw [ha]; exact True.intro) hs ⟨o, hq⟩ ⟨Nat.le_trans (dropK_le kvs k) z, nsys, _, (L2.DX.KT_drop k rel).keeps same, o, es, ep, hq, h2, h3, h4, h5⟩, rv, q⟩
/-- d.pop(k) of a dict with tuple keys -/
def popTM : FM := fun x ys S => match x, ys with
  | .loc n, [.p (.tk ks)] => (match S[n]? with
    | some (.dt kvs) => (match getA ks kvs with
      | some d => some (d, S.set n (.dt (delA ks kvs)))
      | none => none)
    | _ => none)
  | _, _ => none
theorem m_popT (hu : X.A.units + 1 < cLine) : MtR X "dict.pop" (OM G popTM) := MtR_imp (mt_pop1T hu) fun xc yc H Q ⟨B, ρ, S, x, ys, z, S', hs, rx, ry, e, q⟩ => by
  unfold popTM at e
  split at e
  · rename_i n ks
    split at e
    · rename_i kvs hn
      split at e
      · rename_i d hd
        cases e
        obtain ⟨a, rfl, ha, vs, e1, t⟩ := hs.at_loc rx hn
        obtain ⟨w, rfl, r⟩ := rvs1 ry
        obtain ⟨b, rfl, hb⟩ := rv_tk r
        obtain ⟨y, h2, h3⟩ := t.get_some hd
        have f : Fr ρ H ρ (upd H a (.dT (dropK vs ks))) := Fr.put (List.mem_of_getElem? ha) (nofz e1)
        exact ⟨a, vs, ks, b, y, rfl, rfl, e1, hb, h2, q ρ _ _ f (hs.put ha (nofz e1) ⟨_, upd_same, (t.del ks).mono f hs⟩) (h3.mono f hs)⟩
      · cases e
    · cases e
  · cases e

/-! ### displays -/
abbrev MPr := Slots → Sto → Option (List (D × D) × Sto)
def pNil : MPr := fun _ S => some ([], S)
def pCons (k v : ME) (r : MPr) : MPr := fun σ S => match k σ S with
  | none => none
  | some (x, S1) => match v σ S1 with
    | none => none
    | some (y, S2) => match r σ S2 with
      | none => none
      | some (xs, S3) => some ((x, y) :: xs, S3)
/-- pairs with keys -/
inductive RPr (G : Gx) (B ρ : List Addr) (H : Hp) : List (D × D) → List (V × V) → Prop
  | nil : RPr G B ρ H [] []
  | cons {k d : D} {u v : V} {ds : List (D × D)} {vs : List (V × V)} : RV G B ρ H k u → RV G B ρ H d v → RPr G B ρ H ds vs → RPr G B ρ H ((k, d) :: ds) ((u, v) :: vs)
/-- the pairs, as they are read -/
structure PrOk (G : Gx) (X : Cx) (pos : Pos) (keys : List (Option Expr)) (values : List Expr) (m : MPr) (trs : List (TE × TE)) : Prop where
  pps : PPs X pos keys values trs
  all : keys.all (·.isSome) = true
  len : keys.length = values.length
  read : ∀ (B ρ : List Addr) (S : Sto) (σ : Slots) (σc : L2.St) (H : Hp) (xs : List (D × D)) (S' : Sto) (Q : List (V × V) → Hp → Prop), Hs G B ρ S H → Sl G B ρ H σ σc → m σ S = some (xs, S') →
    (∀ ρ' vs H', Fr ρ H ρ' H' → Hs G B ρ' S' H' → RPr G B ρ' H' xs vs → Q vs H') → tPairs trs σc H Q
def PrG (G : Gx) (X : Cx) (pos : Pos) (keys : List (Option Expr)) (values : List Expr) (m : MPr) : Prop := ∃ trs, PrOk G X pos keys values m trs
variable {k v : Expr} {mv : ME} {mr : MPr} {keys : List (Option Expr)} {values : List Expr} {pos : Pos}
theorem pr_nil : PrG G X pos [] [] pNil := ⟨[], pps_nil, rfl, rfl, fun B ρ S σ σc H xs S' Q hs sl e k => by
  cases e
  exact k ρ [] H Fr.refl hs .nil⟩
theorem pr_cons (hk : PE X k (RdE G mk)) (hv : PE X v (RdE G mv)) (hr : PrG G X pos keys values mr) : PrG G X pos (some k :: keys) (v :: values) (pCons mk mv mr) := by
  obtain ⟨trs, P⟩ := hr
  refine ⟨_, pps_cons hk hv P.pps, by simp [P.all], by simp [P.len], fun B ρ S σ σc H xs S' Q hs sl e kk => ?_⟩
  unfold pCons at e
  cases ea : mk σ S with
  | none => rw [ea] at e; cases e
  | some p =>
    obtain ⟨x, S1⟩ := p
    simp only [ea] at e
    cases eb : mv σ S1 with
    | none => rw [eb] at e; cases e
    | some p =>
      obtain ⟨y, S2⟩ := p
      simp only [eb] at e
      cases ec : mr σ S2 with
      | none => rw [ec] at e; cases e
      | some p =>
        obtain ⟨ys, S3⟩ := p
        simp only [ec] at e
        cases e
        refine ⟨B, ρ, S, σ, x, S1, hs, sl, ea, fun ρ1 xc H1 f1 hs1 r1 => ⟨B, ρ1, S1, σ, y, S2, hs1, sl.mono f1 hs, eb, fun ρ2 yc H2 f2 hs2 r2 => ?_⟩⟩
        refine P.read B ρ2 S2 σ σc H2 ys S' _ hs2 ((sl.mono f1 hs).mono f2 hs1) ec fun ρ3 vs H3 f3 hs3 r3 => ?_
        exact kk ρ3 _ H3 ((f1.trans f2).trans f3) hs3 (.cons ((r1.mono f2 hs1).mono f3 hs2) (r2.mono f3 hs2) r3)
def keyed : List (D × D) → Option (List (Key × D))
  | [] => some []
  | (k, d) :: r => match keyOf k, keyed r with
    | some j, some s => some ((j, d) :: s)
    | _, _ => none
def keyedT : List (D × D) → Option (List (List Key × D))
  | [] => some []
  | (.p (.tk ks), d) :: r => (match keyedT r with
    | some s => some ((ks, d) :: s)
    | none => none)
  | _ => none
def mergeA {κ : Type} [DecidableEq κ] (kvs more : List (κ × D)) : List (κ × D) := more.foldl (fun acc kv => putA kv.1 kv.2 acc) kvs
/-- {k: v, ..} -/
def mDisp (m : MPr) : ME := fun σ S => match m σ (S ++ [.dk []]) with
  | none => none
  | some (xs, S1) => match S1[S.length]? with
    | some (.dk []) => (match keyed xs with
      | some kvs => if xs.length ≤ 15 then some (.loc S.length, S1.set S.length (.dk (mergeA [] kvs))) else none
      | none => none)
    | _ => none
def mDispT (m : MPr) : ME := fun σ S => match m σ (S ++ [.dt []]) with
  | none => none
  | some (xs, S1) => match S1[S.length]? with
    | some (.dt []) => (match keyedT xs with
      | some kvs => if xs.length ≤ 15 then some (.loc S.length, S1.set S.length (.dt (mergeA [] kvs))) else none
      | none => none)
    | _ => none
theorem keyed_ok {B ρ : List Addr} {H : Hp} : ∀ {xs : List (D × D)} {vs : List (V × V)} {kvs : List (Key × D)}, RPr G B ρ H xs vs → keyed xs = some kvs → ∃ ws : List (Key × V), vs = ws.map (fun kv => (kV kv.1, kv.2)) ∧ RK G B ρ H kvs ws ∧ ws.length = xs.length
  | [], _, _, .nil, e => by
    cases e
    exact ⟨[], rfl, .nil, rfl⟩
  | (k, d) :: xs, _, kvs, .cons (u := u) (v := v) r1 r2 t, e => by
    unfold keyed at e
    split at e
    · rename_i j s hj hs
      cases e
      obtain ⟨ws, h1, h2, h3⟩ := keyed_ok t hs
      exact ⟨(j, v) :: ws, by rw [List.map_cons, h1, keyOf_ok r1 hj], .cons r2 h2, by simp [h3]⟩
    · cases e
theorem RK.merge {B ρ : List Addr} {H : Hp} : ∀ {more : List (Key × D)} {ms : List (Key × V)} {kvs : List (Key × D)} {vs : List (Key × V)}, RK G B ρ H more ms → RK G B ρ H kvs vs → RK G B ρ H (mergeA kvs more) (mergeK vs ms)
  | _, _, _, _, .nil, q => q
  | _, _, as, bs, .cons (k := k) (d := d) (v := v) (ds := ds) (vs := ws) r t, q => show RK G B ρ H (mergeA (putA k d as) ds) (mergeK (putK bs k v) ws) from RK.merge t (q.put k r)
theorem e_disp (hp : PrG G X pos keys values mr) (h0 : keys ≠ []) (h15 : keys.length ≤ 15) : PE X (.Dict keys values pos) (RdE G (mDisp mr)) := by
  obtain ⟨trs, P⟩ := hp
  refine PE_imp (pe_disp P.pps P.all P.len h0 h15) fun σc H Q ⟨B, ρ, S, σ, v, S', hs, sl, e, k⟩ p hp => ?_
  unfold mDisp at e
  split at e
  · cases e
  · rename_i xs S1 hm
    split at e
    · rename_i hn
      split at e
      · rename_i kvs hk
        split at e
        · rename_i hl
          cases e
          have f0 : Fr ρ H (ρ ++ [p]) (upd H p (.dK [])) := Fr.push hp
          have hs0 : Hs G B (ρ ++ [p]) (S ++ [.dk []]) (upd H p (.dK [])) := hs.push hp ⟨[], upd_same, .nil⟩
          refine P.read B _ _ σ σc _ xs S1 _ hs0 (sl.mono f0 hs) hm fun ρ1 vs H1 f1 hs1 r1 => ?_
          obtain ⟨ws, h1, h2, h3⟩ := keyed_ok r1 hk
          have rp : RV G B ρ1 H1 (.loc S.length) (.ref p) := RV.mono f1 hs0 (rv_last hs.len)
          obtain ⟨a, q, ha, us, hu, t⟩ := hs1.at_loc rp hn
          cases q
          cases t
          refine ⟨hu, ws, h1, by rw [h3]; exact hl, ?_⟩
          have f2 : Fr ρ1 H1 ρ1 (upd H1 p (.dK (mergeK [] ws))) := Fr.put (List.mem_of_getElem? ha) (nofz hu)
          exact k ρ1 _ _ ((f0.trans f1).trans f2) (hs1.put ha (nofz hu) ⟨_, upd_same, (h2.merge .nil).mono f2 hs1⟩) (.loc ha)
        · cases e
      · cases e
    · cases e
end
end Rf
end

section
set_option Elab.async false
set_option linter.all false
set_option maxRecDepth 100000
set_option maxHeartbeats 4000000
/-! Rf15: {(k, ..): v}; += of ints. -/
namespace Rf
open PySem L2 PyProof.Rows DT

section
variable {prog : Program} {w : World} {KK : Type} [DecidableEq KK] {knd : HeapKind prog w KK} {A : Around} {E : Value → Shared → Prop} {s : Shared}
/-- a display, the keys tuples: what is stored, in the order of storing -/
theorem dict_shown {env : Env} {keys : List (Option Expr)} {values : List Expr} {pos : Pos} {Q : Value → Shared → Prop} (room : knd.room A) (all : keys.all (·.isSome) = true) (len : keys.length = values.length) (some1 : keys ≠ []) (few : keys.length ≤ 15)
    (run : wpAny (model prog w) A (evalPairs (pairTrees keys values env pos)) (fun vs s₁ => ∃ ps, CarriesH knd s₁.heap vs ps ∧ s₁.heap.DictOfH knd s.heap.objs.size [] ∧
      ∀ h' tk, h'.DictOfH knd s.heap.objs.size (storedAllH [] ps) → Heap.SameBut s.heap.objs.size s₁.heap h' → Q (.ref s.heap.objs.size) { s₁ with heap := h', toks := tk }) E
      { s with heap := s.heap.push { cls := .type "dict", data := .dict #[] } }) : wpAny (model prog w) A (eval (.Dict keys values pos) env) Q E s := by
  have n := pairTrees_length keys values env pos all len
  have ne : pairTrees keys values env pos ≠ [] := fun z => some1 (List.length_eq_zero_iff.mp (by rw [← n, z]; rfl))
  rw [arm_eval_Dict, zip_pairTrees keys values env pos all len, dictDisplay_pairs _ ne (by omega)]
  refine wpAny_bind (wpAny_standAt (wpAny_bind (wpAny_subDictH (knd := knd) room (by omega) (wpAny_mono run (fun vs s₁ t => ?_) fun _ _ e => e))))
  obtain ⟨ps, c, d, k⟩ := t
  exact ⟨ps, c, d, fun h' tk a b => wpAny_pure (k h' tk a b)⟩
end

/-- pairs whose keys are tuples that are tracked -/
abbrev PT2 (H : Hp) : List (V × V) → List (List Key × V) → Prop := Paired fun q kv => (∃ b, q.1 = .ref b ∧ H b = some (.tup (kv.1.map kV))) ∧ q.2 = kv.2
def mergeT (kvs more : List (List Key × V)) : List (List Key × V) := more.foldl (fun acc kv => putK acc kv.1 kv.2) kvs
def tDispT (trs : List (TE × TE)) : TE := fun σ H Q => ∀ p, H p = none → tPairs trs σ (upd H p (.dT [])) fun ps H2 => H2 p = some (.dT []) ∧ ∃ kvs, PT2 H2 ps kvs ∧ kvs.length ≤ 15 ∧ Q (.ref p) (upd H2 p (.dT (mergeT [] kvs)))
theorem mergeT_length : ∀ (more kvs : List (List Key × V)), (mergeT kvs more).length ≤ kvs.length + more.length
  | [], kvs => Nat.le_refl _
  | q :: r, kvs => by
    have a := mergeT_length r (putK kvs q.1 q.2)
    have b := length_putK kvs q.1 q.2
    have c : (mergeT kvs (q :: r)).length = (mergeT (putK kvs q.1 q.2) r).length := rfl
    rw [c, List.length_cons]
    omega
section
variable {X : Cx} {pins : List (Addr × Obj)} {σ : L2.St} {H : Hp} {s : Shared}
theorem carriesT (I : Inv X pins σ H s) : ∀ {ps : List (V × V)} {kvs : List (List Key × V)} {vs : List (Value × Value)}, PT2 H ps kvs → VV ps vs →
    ∃ xs : List (List Key × Addr × Value), CarriesH (tupleKind (mixKind X.prog X.w)) s.heap vs xs ∧ L2.KT H kvs xs
  | _, _, _, .nil, .nil => ⟨[], trivial, .nil⟩
  | _, _, _, .cons (b := kv) h t, .cons (b := v) g u => by
    obtain ⟨xs, c, r⟩ := carriesT I t u
    obtain ⟨⟨b, h1, h2⟩, h3⟩ := h
    obtain ⟨v1, v2⟩ := v
    have g1 := g.1
    rw [h1] at g1
    cases g1
    exact ⟨(kv.1, b, v2) :: xs, ⟨rfl, rfl, key_of I.hok h2, c⟩, .cons ⟨rfl, h2, by rw [← h3]; exact g.2⟩ r⟩
theorem KT_merge : ∀ {more : List (List Key × V)} {ms : List (List Key × Addr × Value)} {kvs : List (List Key × V)} {xs : List (List Key × Addr × Value)}, L2.KT H more ms → L2.KT H kvs xs → L2.KT H (mergeT kvs more) (storedAllH xs ms)
  | _, _, _, _, .nil, q => q
  | _, _, kvs, xs, .cons (a := a) (b := b) (l₁ := more) (l₂ := ms) h t, q => by
    have e : L2.KT H (putK kvs a.1 a.2) (storedH xs b.1 b.2.1 b.2.2) := by
      rw [← h.1]
      exact q.put a.1 h.2.1 h.2.2
    exact (show L2.KT H (mergeT (putK kvs a.1 a.2) more) (storedAllH (storedH xs b.1 b.2.1 b.2.2) ms) from KT_merge t e)
theorem pe_dispT {pos : Pos} {keys : List (Option Expr)} {values : List Expr} {trs : List (TE × TE)} (hu : X.A.units + 1 < cLine) (h : PPs X pos keys values trs) (all : keys.all (·.isSome) = true) (len : keys.length = values.length) (some1 : keys ≠ [])
    (few : keys.length ≤ 15) : PE X (.Dict keys values pos) (tDispT trs) := by
  refine ⟨fun pins s σ H Q I q => ?_⟩
  have nw := I.hok.fresh (Nat.le_refl s.heap.objs.size)
  have I1 := I.laid (a := s.heap.objs.size) (o := .dT []) (h' := s.heap.push { cls := .type "dict", data := .dict #[] }) (t' := s.toks) (fun _ _ e => Heap.get?_push_of_some _ e) (Nat.le_refl _) (dt_empty s.heap I.big)
  refine dict_shown (knd := tupleKind (mixKind X.prog X.w)) (show X.A.units < cLine by omega) all len some1 few (thn (h.run pins _ σ _ _ I1 (q _ nw)) fun vs s2 ⟨ps, H2, I2, rel, e, kvs, pt, few2, q2⟩ => ?_)
  obtain ⟨xs, c, r⟩ := carriesT I2 pt rel
  obtain ⟨z, nsys, xs0, r0, dd⟩ := dt_of I2.hok e
  cases r0
  refine ⟨xs, c, dd, fun h' tk dd' same => ⟨.ref s.heap.objs.size, _, ?_, rfl, q2⟩⟩
  have size : (mergeT [] kvs).length ≤ sizeLine := by
    have a := mergeT_length kvs []
    rw [List.length_nil] at a
    rw [sizeLine_eq]
    omega
  obtain ⟨o, es, ep, hq, d2, d3, d4, _, d5⟩ := dd'
  have keep : ∀ c ys, H2 c = some (.tup ys) → upd H2 s.heap.objs.size (.dT (mergeT [] kvs)) c = some (.tup ys) := fun c ys ec => by
    rw [upd_ne (ne_of ec e (fun z => nomatch z))]
    exact ec
  exact d_write (t' := tk) (ob := .dT (mergeT [] kvs)) I2 (by rw [e]; exact True.intro) same ⟨o, hq⟩ ⟨size, nsys, _, (KT_merge r .nil).keeps keep, o, es, ep, hq, d2, d3, d4, d5⟩
end
section
variable {X : Cx} {G : Gx} {keys : List (Option Expr)} {values : List Expr} {pos : Pos} {mr : MPr}
theorem keyedT_ok {B ρ : List Addr} {H : Hp} : ∀ {xs : List (D × D)} {vs : List (V × V)} {kvs : List (List Key × D)}, RPr G B ρ H xs vs → keyedT xs = some kvs → ∃ ws : List (List Key × V), PT2 H vs ws ∧ RK G B ρ H kvs ws ∧ ws.length = xs.length
  | [], _, _, .nil, e => by
    cases e
    exact ⟨[], .nil, .nil, rfl⟩
  | (k, d) :: xs, _, kvs, .cons (u := u) (v := v) r1 r2 t, e => by
    unfold keyedT at e
    split at e
    · rename_i h
      cases h
    · rename_i ks d' r h
      cases h
      split at e
      · rename_i s hs
        cases e
        obtain ⟨ws, h1, h2, h3⟩ := keyedT_ok t hs
        obtain ⟨b, rfl, hb⟩ := rv_tk r1
        exact ⟨(ks, v) :: ws, .cons ⟨⟨b, rfl, hb⟩, rfl⟩ h1, .cons r2 h2, by simp [h3]⟩
      · cases e
    · cases e
theorem RK.mergeT {B ρ : List Addr} {H : Hp} : ∀ {more : List (List Key × D)} {ms : List (List Key × V)} {kvs : List (List Key × D)} {vs : List (List Key × V)}, RK G B ρ H more ms → RK G B ρ H kvs vs → RK G B ρ H (mergeA kvs more) (Rf.mergeT vs ms)
  | _, _, _, _, .nil, q => q
  | _, _, as, bs, .cons (k := k) (d := d) (v := v) (ds := ds) (vs := ws) r t, q => show RK G B ρ H (mergeA (putA k d as) ds) (Rf.mergeT (putK bs k v) ws) from RK.mergeT t (q.put k r)
theorem e_dispT (hu : X.A.units + 1 < cLine) (hp : PrG G X pos keys values mr) (h0 : keys ≠ []) (h15 : keys.length ≤ 15) : PE X (.Dict keys values pos) (RdE G (mDispT mr)) := by
  obtain ⟨trs, P⟩ := hp
  refine PE_imp (pe_dispT hu P.pps P.all P.len h0 h15) fun σc H Q ⟨B, ρ, S, σ, v, S', hs, sl, e, k⟩ p hp => ?_
  unfold mDispT at e
  split at e
  · cases e
  · rename_i xs S1 hm
    split at e
    · rename_i hn
      split at e
      · rename_i kvs hk
        split at e
        · rename_i hl
          cases e
          have f0 : Fr ρ H (ρ ++ [p]) (upd H p (.dT [])) := Fr.push hp
          have hs0 : Hs G B (ρ ++ [p]) (S ++ [.dt []]) (upd H p (.dT [])) := hs.push hp ⟨[], upd_same, .nil⟩
          refine P.read B _ _ σ σc _ xs S1 _ hs0 (sl.mono f0 hs) hm fun ρ1 vs H1 f1 hs1 r1 => ?_
          obtain ⟨ws, h1, h2, h3⟩ := keyedT_ok r1 hk
          have rp : RV G B ρ1 H1 (.loc S.length) (.ref p) := RV.mono f1 hs0 (rv_last hs.len)
          obtain ⟨a, q, ha, us, hu, t⟩ := hs1.at_loc rp hn
          cases q
          cases t
          refine ⟨hu, ws, h1, by rw [h3]; exact hl, ?_⟩
          have f2 : Fr ρ1 H1 ρ1 (upd H1 p (.dT (Rf.mergeT [] ws))) := Fr.put (List.mem_of_getElem? ha) (nofz hu)
          exact k ρ1 _ _ ((f0.trans f1).trans f2) (hs1.put ha (nofz hu) ⟨_, upd_same, (h2.mergeT .nil).mono f2 hs1⟩) (.loc ha)
        · cases e
      · cases e
    · cases e
/-- += of ints -/
theorem o_iadd : OpR X (inplaceOp .Add) (O2 G (intD fun i j => some (i + j))) := o_int0 iop_add
theorem o_isub : OpR X (inplaceOp .Sub) (O2 G (intD fun i j => some (i - j))) := o_int0 iop_sub
theorem ip_iadd : PIp X .Add (O2 G (intD fun i j => some (i + j))) := o_iadd
theorem in_iadd : InOp X .Add (O2 G (intD fun i j => some (i + j))) := o_iadd

/-! ### keys written as such -/
/-- a tuple display that is to be a key -/
def keysOf : List D → Option (List Key)
  | [] => some []
  | d :: r => match keyOf d, keysOf r with
    | some k, some s => some (k :: s)
    | _, _ => none
def mKey (a : MA) : ME := fun σ S => match a σ S with
  | none => none
  | some (xs, S1) => match keysOf xs with
    | some ks => if xs.length ≤ 100000 then some (.p (.tk ks), S1) else none
    | none => none
theorem keysOf_ok {B ρ : List Addr} {H : Hp} : ∀ {xs : List D} {vs : List V} {ks : List Key}, RVs G B ρ H xs vs → keysOf xs = some ks → vs = ks.map kV
  | [], _, _, .nil, e => by cases e; rfl
  | d :: r, _, ks, .cons q t, e => by
    unfold keysOf at e
    split at e
    · rename_i k s hk hs
      cases e
      rw [List.map_cons, keyOf_ok q hk, keysOf_ok t hs]
    · cases e
theorem e_key {es : List Expr} {ma : MA} {x1} (h : PA X es (RdA G ma)) : PE X (.Tuple es x1 pos) (RdE G (mKey ma)) :=
  PE_imp (pe_tup h) fun σc H Q ⟨B, ρ, S, σ, v, S', hs, sl, e, k⟩ => by
    unfold mKey at e
    cases ea : ma σ S with
    | none => rw [ea] at e; cases e
    | some p =>
      obtain ⟨xs, S1⟩ := p
      simp only [ea] at e
      split at e
      · rename_i ks hk
        split at e
        · rename_i hz
          cases e
          exact ⟨B, ρ, S, σ, xs, _, hs, sl, ea, fun ρ1 vs H1 fr hs1 rx => ⟨by rw [← rx.length]; exact sz_ok hz, fun p hp => by
            rw [keysOf_ok rx hk]
            exact k ρ1 _ _ (fr.trans (Fr.laid hp)) (hs1.laid hp) (.p (.tk upd_same))⟩⟩
        · cases e
      · cases e
/-- never reached -/
theorem e_never {a : Expr} : PE X a (RdE G mNever) := ⟨fun _ _ _ _ _ _ ⟨_, _, _, _, _, _, _, _, e, _⟩ => by cases e⟩
theorem t_never {a : Expr} : PT X a (RdT G fun _ _ => none) := ⟨fun _ _ _ _ _ _ ⟨_, _, _, _, _, _, _, _, e, _⟩ => by cases e⟩
end
end Rf
end

section
set_option Elab.async false
set_option linter.all false
set_option maxRecDepth 100000
set_option maxHeartbeats 4000000
/-! Rf16: texts: split, partition, startswith, join, isdigit, int. -/
namespace Rf
open PySem L2
section
variable {X : Cx} {G : Gx} {B ρ : List Addr} {S S' : Sto} {H : Hp}
def splitM : FM := fun x ys S => match x, ys with
  | .p (.str a), [.p (.str b)] => if (b.length == 0) = false ∧ a.length ≤ 100000 then some (.p (.lst ((Txt.split a b).map .str)), S) else none
  | _, _ => none
def partM : FM := fun x ys S => match x, ys with
  | .p (.str a), [.p (.str b)] => if (b.length == 0) = false ∧ a.length ≤ 100000 then some (.p (.tup [.str (Txt.partition a b).1, .str (Txt.partition a b).2.1, .str (Txt.partition a b).2.2]), S) else none
  | _, _ => none
def startM : FM := fun x ys S => match x, ys with
  | .p (.str a), [.p (.str b)] => some (.p (.bl (Txt.startswith a b)), S)
  | .p (.str a), [.p (.str b), .p (.int i)] => some (.p (.bl (Txt.startswith3 a b i)), S)
  | _, _ => none
def digitM : FM := fun x ys S => match x, ys with
  | .p (.str a), [] => some (.p (.bl (Txt.isdigit a)), S)
  | _, _ => none
def strsD : List D → Option (List Str)
  | [] => some []
  | .p (.str b) :: r => (match strsD r with
    | some bs => some (b :: bs)
    | none => none)
  | _ :: _ => none
def joinM : FM := fun x ys S => match x, ys with
  | .p (.str a), [y] => (match asSeq y S with
    | some ds => (match strsD ds with
      | some zs => if (zs.map (·.length)).sum + zs.length * a.length ≤ 100000 then some (.p (.str (Txt.join a zs)), S) else none
      | none => none)
    | none => none)
  | _, _ => none
def intSL : FL := fun xs S => match xs with
  | [.p (.int i)] => some (.p (.int i), S)
  | [.p (.bl b)] => some (.p (.int (if b then 1 else 0)), S)
  | [.p (.str a)] => (match PySem.intText? a with
    | some n => if a.length ≤ 640 then some (.p (.int n), S) else none
    | none => none)
  | _ => none
theorem rps_strs : ∀ zs : List Str, RPs G B ρ H (zs.map P.str) (zs.map V.str)
  | [] => .nil
  | _ :: r => .cons (.str _) (rps_strs r)
theorem strsD_ok : ∀ {ds : List D} {bs : List Str} {vs : List V}, strsD ds = some bs → RVs G B ρ H ds vs → vs = bs.map V.str
  | [], bs, [], e, .nil => by cases e; rfl
  | d :: ds, bs, v :: vs, e, .cons r t => by
    unfold strsD at e
    split at e
    · rename_i h
      cases h
    · rename_i b ds' h
      cases h
      split at e
      · rename_i cs hc
        cases e
        rw [rv_str r, strsD_ok hc t]
        rfl
      · cases e
    · cases e
theorem m_split : MtR X "str.split" (OM G splitM) := MtR_imp mt_split fun xc yc H Q ⟨B, ρ, S, x, ys, z, S', hs, rx, ry, e, q⟩ => by
  unfold splitM at e
  split at e
  · rename_i a b
    split at e
    · rename_i h
      cases e
      obtain ⟨w, rfl, r⟩ := rvs1 ry
      rw [rv_str rx, rv_str r]
      refine ⟨a, b, rfl, rfl, h.1, ?_, fun p hp => ?_⟩
      · rw [sizeLine_eq]
        omega
      · exact q ρ _ _ (Fr.laid hp) (hs.laid hp) (.p (.lst upd_same (hs.fresh hp).1 (hs.fresh hp).2 (rps_strs _)))
    · cases e
  · cases e
theorem m_part : MtR X "str.partition" (OM G partM) := MtR_imp mt_partF fun xc yc H Q ⟨B, ρ, S, x, ys, z, S', hs, rx, ry, e, q⟩ => by
  unfold partM at e
  split at e
  · rename_i a b
    split at e
    · rename_i h
      cases e
      obtain ⟨w, rfl, r⟩ := rvs1 ry
      rw [rv_str rx, rv_str r]
      exact ⟨a, b, rfl, rfl, h.1, sz_ok h.2, fun p o hp hd => q ρ _ _ (Fr.laid hp) (hs.laid hp) (.p (.tup (.inl ⟨o, hd, upd_same⟩) (.cons (.str _) (.cons (.str _) (.cons (.str _) .nil)))))⟩
    · cases e
  · cases e
theorem m_start : MtR X "str.startswith" (OM G startM) := MtR_imp (MtR.or mt_startswith mt_startswith3) fun xc yc H Q ⟨B, ρ, S, x, ys, z, S', hs, rx, ry, e, q⟩ => by
  unfold startM at e
  split at e
  · rename_i a b
    cases e
    obtain ⟨w, rfl, r⟩ := rvs1 ry
    rw [rv_str rx, rv_str r]
    exact .inl ⟨a, b, rfl, rfl, q.p hs (.bl _)⟩
  · rename_i a b i
    cases e
    obtain ⟨w, w', rfl, r, r'⟩ := rvs2 ry
    rw [rv_str rx, rv_str r, rv_int r']
    exact .inr ⟨a, b, i, rfl, rfl, q.p hs (.bl _)⟩
  · cases e
theorem m_digit : MtR X "str.isdigit" (OM G digitM) := MtR_imp mt_isdigit fun xc yc H Q ⟨B, ρ, S, x, ys, z, S', hs, rx, ry, e, q⟩ => by
  unfold digitM at e
  split at e
  · rename_i a
    cases e
    cases ry
    rw [rv_str rx]
    exact ⟨a, rfl, rfl, trivial, q.p hs (.bl _)⟩
  · cases e
theorem m_join (hK : X.K = G.K) : MtR X "str.join" (OM G joinM) := MtR_imp mt_join fun xc yc H Q ⟨B, ρ, S, x, ys, z, S', hs, rx, ry, e, q⟩ => by
  unfold joinM at e
  split at e
  · rename_i a y
    split at e
    · rename_i ds hd
      split at e
      · rename_i zs hz
        split at e
        · rename_i hl
          cases e
          obtain ⟨w, rfl, r⟩ := rvs1 ry
          rw [rv_str rx]
          obtain ⟨p, vs, rfl, sq, rs⟩ := asSeq_ok hs r hd
          have ev := strsD_ok hz rs
          subst ev
          rw [← hK] at sq
          exact ⟨a, p, zs, rfl, rfl, sq, Nat.le_trans hl (by decide), q.p hs (.str _)⟩
        · cases e
      · cases e
    · cases e
  · cases e
theorem c_intS : CallR X (.type "int") (OL G intSL) := CallR_imp (CallR.or call_int1 call_int_str) fun xc H Q ⟨B, ρ, S, xs, z, S', hs, rx, e, q⟩ => by
  unfold intSL at e
  split at e
  · cases e
    obtain ⟨v, rfl, r⟩ := rvs1 rx
    rw [rv_int r]
    exact .inl (.inl ⟨_, rfl, q.p hs (.int _)⟩)
  · cases e
    obtain ⟨v, rfl, r⟩ := rvs1 rx
    rw [rv_bl r]
    exact .inl (.inr ⟨_, rfl, q.p hs (.int _)⟩)
  · split at e
    · rename_i n hn
      split at e
      · rename_i hl
        cases e
        obtain ⟨v, rfl, r⟩ := rvs1 rx
        rw [rv_str r]
        exact .inr ⟨_, n, rfl, hn, hl, q.p hs (.int _)⟩
      · cases e
    · cases e
  · cases e
end
end Rf
end

section
set_option Elab.async false
set_option linter.all false
set_option maxRecDepth 100000
set_option maxHeartbeats 4000000
/-! Rf17: what the head tells: defs, constants, classes by names. -/
namespace Rf
open PySem L2

mutual
/-- the constant p stands at u -/
def cB (G : Gx) : P → Value → Bool
  | .non, .none => true
  | .bl b, .bool c => b == c
  | .int i, .int j _ => decide (i = j)
  | .str x, .str y _ => decide (x = y)
  | .fn i, .ref a => decide (a = G.fa i)
  | .tup xs, .ref a => ctb xs && (match G.K.lookup a with
    | some ⟨.type c, none, .seq its _, _⟩ => decide (c = "tuple") && (decide (its.size ≤ sizeLine) && cBs G xs its.toList)
    | _ => false)
  | _, _ => false
def cBs (G : Gx) : List P → List Value → Bool
  | [], [] => true
  | x :: xs, u :: us => cB G x u && cBs G xs us
  | _, _ => false
end
theorem band {a b : Bool} (h : (a && b) = true) : a = true ∧ b = true := Bool.and_eq_true_iff.mp h
mutual
theorem cB_ok {G : Gx} : ∀ {p : P} {u : Value}, cB G p u = true → ∃ v, RelV v u ∧ ∀ B ρ H, RP G B ρ H p v
  | .non, u, h => by
    cases u <;> first | (simp [cB] at h; done) | skip
    exact ⟨.non, rfl, fun _ _ _ => .non⟩
  | .bl b, u, h => by
    cases u <;> first | (simp [cB] at h; done) | skip
    rename_i c
    have e : b = c := by simpa [cB] using h
    subst e
    exact ⟨.bl b, rfl, fun _ _ _ => .bl b⟩
  | .int i, u, h => by
    cases u <;> first | (simp [cB] at h; done) | skip
    rename_i j t
    have e : i = j := by simpa [cB] using h
    subst e
    exact ⟨.int i, ⟨t, rfl⟩, fun _ _ _ => .int i⟩
  | .str x, u, h => by
    cases u <;> first | (simp [cB] at h; done) | skip
    rename_i y t
    have e : x = y := by simpa [cB] using h
    subst e
    exact ⟨.str x, ⟨t, rfl⟩, fun _ _ _ => .str x⟩
  | .fn i, u, h => by
    cases u <;> first | (simp [cB] at h; done) | skip
    rename_i a
    have e : a = G.fa i := by simpa [cB] using h
    subst e
    exact ⟨.ref _, rfl, fun _ _ _ => .fn i⟩
  | .tup xs, u, h => by
    cases u <;> first | (simp [cB] at h; done) | skip
    rename_i a
    unfold cB at h
    obtain ⟨h1, h2⟩ := band h
    split at h2
    · rename_i c its n sl hl
      obtain ⟨h3, h4⟩ := band h2
      obtain ⟨h5, h6⟩ := band h4
      obtain ⟨vs, r, q⟩ := cBs_ok h6
      exact ⟨.ref a, rfl, fun B ρ H => .tup (.inr ⟨h1, _, its, n, hl, congrArg Value.type (of_decide_eq_true h3), rfl, rfl, of_decide_eq_true h5, r⟩) (q B ρ H)⟩
    · cases h2
  | .lst _, u, h => by cases u <;> simp [cB] at h
  | .scr _, u, h => by cases u <;> simp [cB] at h
  | .tk _, u, h => by cases u <;> simp [cB] at h
  | .ty _, u, h => by cases u <;> simp [cB] at h
theorem cBs_ok {G : Gx} : ∀ {ps : List P} {us : List Value}, cBs G ps us = true → ∃ vs, Vals vs us ∧ ∀ B ρ H, RPs G B ρ H ps vs
  | [], [], _ => ⟨[], .nil, fun _ _ _ => .nil⟩
  | [], _ :: _, h => by simp [cBs] at h
  | _ :: _, [], h => by simp [cBs] at h
  | p :: ps, u :: us, h => by
    unfold cBs at h
    obtain ⟨h1, h2⟩ := band h
    obtain ⟨v, r, q⟩ := cB_ok h1
    obtain ⟨vs, r', q'⟩ := cBs_ok h2
    exact ⟨v :: vs, .cons r r', fun B ρ H => .cons (q B ρ H) (q' B ρ H)⟩
end
/-- the module's name x is the constant p -/
def gB (G : Gx) (x : Str) (p : P) : Bool := match PySem.W.nsIn G.K mainGlobals x with
  | some (some u) => cB G p u
  | _ => false
structure GlobOk (G : Gx) (mg : Str → Option Value) (x : Str) (p : P) : Prop where
  ex : ∃ u v, mg x = some u ∧ RelV v u ∧ ∀ B ρ H, RP G B ρ H p v
theorem e_glo {X : Cx} {G : Gx} {x : Str} {p : P} {pos : Pos} (h : GlobOk G X.mg x p) (hg : Gl X x := by rfl) (hd : (x == ("__debug__" : Str)) = false := by decide) : PE X (.Name x pos) (RdE G (mC p)) := by
  obtain ⟨u, v, h1, h2, h3⟩ := h
  exact e_glob hg h1 h2 h3 hd
/-- the addresses of the defs and the classes, by names -/
def gx (fns : List Str) (cls : List Str) (K : PySem.W.Frag) : Gx := ⟨K, fun i => He.ga K (fns.getD i Str.empty), fun c => He.ga K (cls.getD c Str.empty), fun _ => True, fun _ _ => trivial⟩
/-- the world of a law: what the head has seen -/
structure Wd (fa : List He.Fa) (fn : List He.DefD) (gs : List (Str × P)) (fns cls : List Str) (K : PySem.W.Frag) (mg : Str → Option Value) : Prop where
  says : He.SaysD fa fn K
  glos : (gs.all fun q => gB (gx fns cls K) q.1 q.2) = true
  ex : ∃ h : Heap, K.In h ∧ h.Ns mainGlobals mg
section
variable {fa : List He.Fa} {fn : List He.DefD} {gs : List (Str × P)} {fns cls : List Str} {K : PySem.W.Frag} {mg : Str → Option Value}
theorem Wd.glo (W : Wd fa fn gs fns cls K mg) (i : Nat) {x : Str} {p : P} (h : gs[i]? = some (x, p) := by rfl) : GlobOk (gx fns cls K) mg x p := by
  obtain ⟨hp, X, N⟩ := W.ex
  have q := List.all_eq_true.mp W.glos _ (List.mem_of_getElem? h)
  unfold gB at q
  cases e : PySem.W.nsIn (gx fns cls K).K mainGlobals x with
  | none => rw [e] at q; cases q
  | some o =>
    rw [e] at q
    cases o with
    | none => cases q
    | some u =>
      obtain ⟨v, r, k⟩ := cB_ok q
      exact ⟨u, v, PySem.W.mg_of X N e, r, k⟩
theorem Wd.free (W : Wd fa fn gs fns cls K mg) (i : Nat) {x : Str} (h : fa[i]? = some (.free x) := by rfl) : mg x = none := by
  obtain ⟨hp, X, N⟩ := W.ex
  exact He.free_ok X N (W.says.fact i h)
theorem Wd.fun_ (W : Wd fa fn gs fns cls K mg) (i : Nat) {x : Str} (h : fa[i]? = some (.glo x) := by rfl) : mg x = some (.ref (He.ga K x)) := by
  obtain ⟨hp, X, N⟩ := W.ex
  exact He.glo_ok X N (W.says.fact i h)
end
theorem room_u {k : Nat} {A : Around} (r : Room k A) : A.units + 65 < cLine := by
  have := r.un
  omega
theorem room_u1 {k : Nat} {A : Around} (r : Room k A) : A.units + 1 < cLine := by
  have := r.un
  omega
theorem room_u64 {k : Nat} {A : Around} (r : Room k A) : A.units + 64 < cLine := by
  have := r.un
  omega

/-! ### the Hook -/
abbrev AlG : Type := He.AlD × Bool
def obsG (fa : List He.Fa) (fn : List He.DefD) (gs : List (Str × P)) (fns cls : List Str) (K : PySem.W.Frag) : AlG := (He.obsD fa fn K, gs.all fun q => gB (gx fns cls K) q.1 q.2)
def obsGG (n : Nat) (fa : List He.Fa) (fn : List He.DefD) (gs : List (Str × P)) (fns cls : List Str) (g : Addr → Option Obj) : AlG := obsG fa fn gs fns cls (He.frG g (He.asD g n))
def hookG (n : Nat) (fa : List He.Fa) (fn : List He.DefD) (gs : List (Str × P)) (fns cls : List Str) : PySem.W.Hook where
  α := AlG
  obs := fun s => obsGG n fa fn gs fns cls s.heap.get?
  val := fun _ => (He.valD fn, true)
  says := fun _ h => ∃ K : PySem.W.Frag, K.In h ∧ obsG fa fn gs fns cls K = (He.valD fn, true)
  of := fun _ _ e => ⟨_, He.frG_in, e⟩
  keeps := fun _ _ _ ⟨K, hK, c⟩ k => ⟨K, PySem.W.Frag.In.keeps hK k, c⟩
theorem obsGG_eq {n : Nat} {fa : List He.Fa} {fn : List He.DefD} {gs : List (Str × P)} {fns cls : List Str} {g : Addr → Option Obj} {s : Shared} (h : ∀ a, g a = s.heap.get? a) : obsGG n fa fn gs fns cls g = (hookG n fa fn gs fns cls).obs s := by
  have e : g = s.heap.get? := funext h
  rw [e] <;> rfl
theorem Wd.of {fa : List He.Fa} {fn : List He.DefD} {gs : List (Str × P)} {fns cls : List Str} {K : PySem.W.Frag} {mg : Str → Option Value} {h : Heap} (X : K.In h) (N : h.Ns mainGlobals mg) (c : obsG fa fn gs fns cls K = (He.valD fn, true)) : Wd fa fn gs fns cls K mg :=
  ⟨congrArg (fun z : AlG => z.1) c, congrArg (fun z : AlG => z.2) c, h, X, N⟩
end Rf
end

section
set_option Elab.async false
set_option linter.all false
set_option maxRecDepth 100000
set_option maxHeartbeats 4000000
/-! Rf18: a, b = x, y. -/
namespace Rf
open PySem L2
def sPar (i j : Nat) (a : MA) : MS := fun σ S => match a σ S with
  | some ([x, y], S1) => some (.nx, (σ.set i (some x)).set j (some y), S1)
  | _ => none
def sPar3 (i j l : Nat) (a : MA) : MS := fun σ S => match a σ S with
  | some ([x, y, z], S1) => some (.nx, ((σ.set i (some x)).set j (some y)).set l (some z), S1)
  | _ => none
section
variable {X : Cx} {G : Gx} {i j l : Nat} {x y z : Str} {a b c : Expr} {ma : MA} {px py pz pt pos : Pos} {kt k2 : Nat} {pt2 : Pos}
theorem s_par (hc : X.calm = true) (hN : X.N.Nodup) (hi : X.N[i]? = some x) (hj : X.N[j]? = some y) (hij : i ≠ j) (hx : X.env.scope.names.lookup x = some .local) (hy : X.env.scope.names.lookup y = some .local) (ha : PA X [a, b] (RdA G ma))
    (hw : swappedStores [.Tuple [.Name x px, .Name y py] kt pt] (.Tuple [a, b] k2 pt2) X.env = pure (some [x, y])) (hs : swapsWithSole [.Tuple [.Name x px, .Name y py] kt pt] (.Tuple [a, b] k2 pt2) pos.line X.env = pure false := by rfl) :
    PS X (.Assign [.Tuple [.Name x px, .Name y py] kt pt] (.Tuple [a, b] k2 pt2) pos) (RdS G (sPar i j ma)) :=
  PS_imp (ps_par hc hN hi hj hij hx hy ha hw hs) fun D σc H ⟨B, ρ, S, σ, f, σ', S', hs, sl, e, k⟩ => by
    unfold sPar at e
    split at e
    · rename_i u v S1 hm
      cases e
      refine ⟨B, ρ, S, σ, _, _, hs, sl, hm, fun ρ1 vs H1 fr hs1 r => ?_⟩
      obtain ⟨p, q, rfl, r1, r2⟩ := rvs2' r
      exact ⟨p, q, rfl, k ρ1 _ H1 fr hs1 (((sl.mono fr hs).set i r1).set j r2)⟩
    · cases e
theorem s_par3 (hc : X.calm = true) (hN : X.N.Nodup) (hi : X.N[i]? = some x) (hj : X.N[j]? = some y) (hl : X.N[l]? = some z) (hij : i ≠ j) (hil : i ≠ l) (hjl : j ≠ l) (hx : X.env.scope.names.lookup x = some .local) (hy : X.env.scope.names.lookup y = some .local) (hz : X.env.scope.names.lookup z = some .local)
    (ha : PA X [a, b, c] (RdA G ma)) (hw : swappedStores [.Tuple [.Name x px, .Name y py, .Name z pz] kt pt] (.Tuple [a, b, c] k2 pt2) X.env = pure (some [x, y, z]))
    (hs : swapsWithSole [.Tuple [.Name x px, .Name y py, .Name z pz] kt pt] (.Tuple [a, b, c] k2 pt2) pos.line X.env = pure false := by rfl) :
    PS X (.Assign [.Tuple [.Name x px, .Name y py, .Name z pz] kt pt] (.Tuple [a, b, c] k2 pt2) pos) (RdS G (sPar3 i j l ma)) :=
  PS_imp (ps_par3 hc hN hi hj hl hij hil hjl hx hy hz ha hw hs) fun D σc H ⟨B, ρ, S, σ, f, σ', S', hs, sl, e, k⟩ => by
    unfold sPar3 at e
    split at e
    · rename_i u v w S1 hm
      cases e
      refine ⟨B, ρ, S, σ, _, _, hs, sl, hm, fun ρ1 vs H1 fr hs1 r => ?_⟩
      cases r with
      | cons r1 r =>
        obtain ⟨p, q, rfl, r2, r3⟩ := rvs2' r
        exact ⟨_, p, q, rfl, k ρ1 _ H1 fr hs1 ((((sl.mono fr hs).set i r1).set j r2).set l r3)⟩
    · cases e
end
/-! ### names of what is built in -/
theorem bt_len : bootBuiltins "len" = some (.builtin "len") := by decide +kernel
theorem bt_isinstance : bootBuiltins "isinstance" = some (.builtin "isinstance") := by decide +kernel
theorem bt_abs : bootBuiltins "abs" = some (.builtin "abs") := by decide +kernel
theorem bt_max : bootBuiltins "max" = some (.builtin "max") := by decide +kernel
theorem bt_min : bootBuiltins "min" = some (.builtin "min") := by decide +kernel
theorem bt_all : bootBuiltins "all" = some (.builtin "all") := by decide +kernel
theorem bt_any : bootBuiltins "any" = some (.builtin "any") := by decide +kernel
theorem bt_sum : bootBuiltins "sum" = some (.builtin "sum") := by decide +kernel
theorem bt_sorted : bootBuiltins "sorted" = some (.builtin "sorted") := by decide +kernel
theorem bt_int : bootBuiltins "int" = some (.type "int") := by decide +kernel
theorem bt_str : bootBuiltins "str" = some (.type "str") := by decide +kernel
theorem bt_bool : bootBuiltins "bool" = some (.type "bool") := by decide +kernel
theorem bt_tuple : bootBuiltins "tuple" = some (.type "tuple") := by decide +kernel
theorem bt_list : bootBuiltins "list" = some (.type "list") := by decide +kernel
theorem bt_dict : bootBuiltins "dict" = some (.type "dict") := by decide +kernel
theorem bt_set : bootBuiltins "set" = some (.type "set") := by decide +kernel
/-- += of ints, as a word -/
def iaddD : F2 := intD fun i j => some (i + j)
theorem ip_iaddD {X : Cx} {G : Gx} : PIp X .Add (O2 G iaddD) := ip_iadd
end Rf
end

section
set_option Elab.async false
set_option linter.all false
set_option maxRecDepth 100000
set_option maxHeartbeats 4000000
/-! Rf19: sorted(dict of ints); dict(pairs). -/
namespace Rf
open PySem L2
/-- the keys, all ints -/
def keysI : List (Key × D) → Option (List Int)
  | [] => some []
  | (.inl i, _) :: r => (match keysI r with
    | some is => some (i :: is)
    | none => none)
  | (.inr _, _) :: _ => none
def sortL : FL := fun xs S => match xs with
  | [.loc n] => (match S[n]? with
    | some (.dk kvs) => (match keysI kvs with
      | some is => if is.length < 64 then some (.p (.lst ((sortI is).map .int)), S) else none
      | none => none)
    | _ => sortIL xs S)
  | _ => sortIL xs S
section
variable {X : Cx} {G : Gx} {B ρ : List Addr} {S S' : Sto} {H : Hp}
theorem keysI_ok : ∀ {ds : List (Key × D)} {vs : List (Key × V)} {is : List Int}, RK G B ρ H ds vs → keysI ds = some is → vs.map (·.1) = is.map Sum.inl
  | _, _, is, .nil, e => by cases e; rfl
  | (k, d) :: ds, _, is, .cons r t, e => by
    cases k with
    | inl i =>
      unfold keysI at e
      split at e
      · rename_i js hj
        cases e
        rw [List.map_cons, keysI_ok t hj]
        rfl
      · cases e
    | inr x => cases e
theorem c_sort (hc : X.calm = true) : CallR X (.builtin "sorted") (OL G sortL) := CallR_imp (CallR.or c_sortI (call_sortedDI hc)) fun xc H Q ⟨B, ρ, S, xs, z, S', hs, rx, e, q⟩ => by
  unfold sortL at e
  split at e
  · rename_i n
    split at e
    · rename_i kvs hn
      split at e
      · rename_i is hk
        split at e
        · rename_i hl
          cases e
          obtain ⟨v, rfl, r⟩ := rvs1 rx
          obtain ⟨a, rfl, _, vs, e1, t⟩ := hs.at_loc r hn
          refine .inr ⟨a, vs, is, rfl, .inl e1, keysI_ok t hk, hl, fun ns l hp hs' hl' => ?_⟩
          rw [sortI_one hp hs']
          exact q ρ _ _ (Fr.laid hl') (hs.laid hl') (.p (.lst upd_same (hs.fresh hl').1 (hs.fresh hl').2 (rps_ints _)))
        · cases e
      · cases e
    · exact .inl ⟨B, ρ, S, _, z, S', hs, rx, e, q⟩
  · exact .inl ⟨B, ρ, S, xs, z, S', hs, rx, e, q⟩
/-- pairs as they stand in a list -/
def pairD : D → Option (Key × D)
  | .p (.tup [k, x]) => (match keyOf (.p k) with
    | some j => some (j, .p x)
    | none => none)
  | .mix [k, x] => (match keyOf k with
    | some j => some (j, x)
    | none => none)
  | _ => none
def pairsD : List D → Option (List (Key × D))
  | [] => some []
  | d :: r => match pairD d, pairsD r with
    | some p, some ps => some (p :: ps)
    | _, _ => none
/-- dict(xs), xs a list of pairs -/
def dictL : FL := fun xs S => match xs with
  | [x] => (match asLst x S with
    | some ds => (match pairsD ds with
      | some ps => some (.loc S.length, S ++ [.dk (mergeA [] ps)])
      | none => none)
    | none => none)
  | _ => none
theorem pairD_ok {d : D} {v : V} {j : Key} {x : D} (hs : Hs G B ρ S H) (r : RV G B ρ H d v) (e : pairD d = some (j, x)) : ∃ p w, v = .ref p ∧ SqT G.K H p [kV j, w] ∧ RV G B ρ H x w := by
  unfold pairD at e
  split at e
  · rename_i k y
    split at e
    · rename_i i hk
      cases e
      cases r with
      | p r =>
        cases r with
        | tup s t =>
          cases t with
          | cons a t =>
            cases t with
            | cons b t =>
              cases t
              rw [keyOf_ok (.p a) hk] at s
              exact ⟨_, _, rfl, s.sqt, .p b⟩
    · cases e
  · rename_i k y
    split at e
    · rename_i i hk
      cases e
      cases r with
      | mix s t =>
        cases t with
        | cons a t =>
          cases t with
          | cons b t =>
            cases t
            rw [keyOf_ok a hk] at s
            exact ⟨_, _, rfl, s.sqt, b⟩
    · cases e
  · cases e
theorem pairsD_ok : ∀ {ds : List D} {vs : List V} {ps : List (Key × D)}, Hs G B ρ S H → RVs G B ρ H ds vs → pairsD ds = some ps → ∃ as ws, vs = as.map V.ref ∧ Paired (fun p kv => SqT G.K H p [kV kv.1, kv.2]) as ws ∧ RK G B ρ H ps ws
  | [], _, _, hs, .nil, e => by
    cases e
    exact ⟨[], [], rfl, .nil, .nil⟩
  | d :: ds, _, ps, hs, .cons r t, e => by
    unfold pairsD at e
    split at e
    · rename_i p qs hp hq
      cases e
      obtain ⟨j, x⟩ := p
      obtain ⟨a, w, rfl, s, rx⟩ := pairD_ok hs r hp
      obtain ⟨as, ws, rfl, h2, h3⟩ := pairsD_ok hs t hq
      exact ⟨a :: as, (j, w) :: ws, rfl, .cons s h2, .cons rx h3⟩
    · cases e
theorem c_dictL (hK : X.K = G.K) (hc : X.calm = true) : CallR X (.type "dict") (OL G dictL) := CallR_imp (call_dictP hc) fun xc H Q ⟨B, ρ, S, xs, z, S', hs, rx, e, q⟩ => by
  unfold dictL at e
  split at e
  · rename_i x
    split at e
    · rename_i ds hd
      split at e
      · rename_i ps hp
        cases e
        obtain ⟨v, rfl, r⟩ := rvs1 rx
        obtain ⟨p, vs, rfl, h1, t⟩ := asLst_ok hs r hd
        obtain ⟨as, ws, rfl, h2, h3⟩ := pairsD_ok hs t hp
        refine ⟨p, as, ws, rfl, SqL.of h1, by rw [hK]; exact h2, fun l hl => ?_⟩
        exact q (ρ ++ [l]) _ _ (Fr.push hl) (hs.push hl ⟨_, upd_same, (h3.merge .nil).mono (Fr.push hl) hs⟩) (rv_last hs.len)
      · cases e
    · cases e
  · cases e
end
end Rf
end

section
set_option Elab.async false
set_option linter.all false
set_option maxRecDepth 100000
set_option maxHeartbeats 4000000
/-! Rf20: dict() of a tuple of pairs. -/
namespace Rf
open PySem L2
section
variable {X : Cx} {pins : List (Addr × Obj)} {σ : L2.St} {H : Hp} {s : Shared}
/-- what stands there, plain -/
theorem plain_of {a : Addr} {vs : List V} (I : Inv X pins σ H s) (h : Tt H a vs ∨ Rf.KT X.K a vs) : ∃ its : List Value, PlainSeq "tuple" s.heap a its.toArray ∧ Vals vs its ∧ vs.length ≤ sizeLine := by
  rcases h with ⟨o, d, e⟩ | ⟨o, its, n, h1, h2, h3, h4, h5, h6⟩
  · obtain ⟨g, z, its, r, o2, g2, c, n, hd⟩ := (show ObjOk X.prog X.w H s.heap a (Tob o vs) from I.hok a _ e)
    rw [g] at g2
    cases g2
    exact ⟨its, ⟨o, n, g, c, d, hd⟩, r, z⟩
  · exact ⟨its.toList, ⟨o, n, I.kIn a o h1, h2, h3, by rw [Array.toArray_toList]; exact h4⟩, h6, by rw [h6.length, Array.length_toList]; exact h5⟩
/-- the pairs, item by item -/
theorem pairs_at (I : Inv X pins σ H s) : ∀ {as : List Addr} {kvs : List (Key × V)}, Paired (fun p kv => SqT X.K H p [kV kv.1, kv.2]) as kvs →
    ∃ ws : List (Key × Value × Value), ws.length = as.length ∧ KV kvs (ws.map fun w => (w.1, w.2.2)) ∧ ∀ (j : Nat) (w : Key × Value × Value), ws[j]? = some w → ∃ b, as[j]? = some b ∧ PairAt s.heap b w.2.1 w.2.2 ∧ (mixKind X.prog X.w).is w.1 w.2.1 = true
  | _, _, .nil => ⟨[], rfl, .nil, fun j w e => by simp at e⟩
  | _, _, .cons (a := p) (b := kv) h t => by
    obtain ⟨ws, l, r, k⟩ := pairs_at I t
    obtain ⟨its, rv, ht, _⟩ := I.tuple h
    obtain ⟨u, y, e, ru, ry⟩ := vals2 rv
    subst e
    refine ⟨(kv.1, u, y) :: ws, by simp [l], .cons ⟨rfl, ry⟩ r, fun j w e => ?_⟩
    cases j with
    | zero =>
      have e' : (kv.1, u, y) = w := Option.some.inj e
      subst e'
      exact ⟨p, rfl, .inl ht, kV_is (P := X.prog) (w := X.w) ru⟩
    | succ j =>
      obtain ⟨b, e1, e2⟩ := k j w (by simpa using e)
      exact ⟨b, by simpa using e1, e2⟩
theorem call_dictTup (hc : X.calm = true) : CallR X (.type "dict") (fun xs H Q => ∃ (a : Addr) (as : List Addr) (kvs : List (Key × V)), xs = [.ref a] ∧ (Tt H a (as.map V.ref) ∨ Rf.KT X.K a (as.map V.ref)) ∧ Paired (fun p kv => SqT X.K H p [kV kv.1, kv.2]) as kvs ∧
    ∀ p, H p = none → Q (.ref p) (upd H p (.dK (mergeK [] kvs)))) := fun pins s σ H xs us Q I r ⟨a, as, kvs, e, hq, hp, q⟩ => by
  subst e
  obtain ⟨u, rfl, rx⟩ := vals1 r
  cases rx
  obtain ⟨its, pl, rv, z⟩ := plain_of I hq
  have ei := refs_at rv
  subst ei
  obtain ⟨ws, l, rel, k⟩ := pairs_at I hp
  rw [List.length_map] at z
  have n1 : (ws.map fun w => (w.2.1, w.2.2)).length = as.length := by rw [List.length_map, l]
  have items : PairItems s.heap (as.map Value.ref).toArray (fun j => as.getD j 0) (ws.map fun w => (w.2.1, w.2.2)) := by
    refine ⟨by rw [n1]; simp, fun j x y e => ?_⟩
    rw [List.getElem?_map] at e
    cases hw : ws[j]? with
    | none => rw [hw] at e; cases e
    | some w =>
      rw [hw] at e
      cases e
      obtain ⟨b, e1, e2, _⟩ := k j w hw
      have e3 : as.getD j 0 = b := by rw [List.getD_eq_getElem?_getD, e1]; rfl
      exact ⟨by simp [e1], by show PairAt s.heap (as.getD j 0) _ _; rw [e3]; exact e2⟩
  refine PySem.call_dict_pairs (knd := mixKind X.prog X.w) (kvs := ws.map fun w => (w.1, w.2.2)) (PairArg.tuple a (as.map Value.ref).toArray (fun j => as.getD j 0) (ws.map fun w => (w.2.1, w.2.2))) (I.ok.hd hc) ⟨pl, items⟩ ?_ (by rw [n1]; exact z) fun h' tk hd kp => ?_
  · refine ⟨by rw [List.length_map, List.length_map], fun i key v e => ?_⟩
    have e' : (ws.map fun w => (w.2.1, w.2.2))[i]? = some (key, v) := e
    rw [List.getElem?_map] at e'
    cases hw : ws[i]? with
    | none => rw [hw] at e'; cases e'
    | some w =>
      rw [hw] at e'
      cases e'
      obtain ⟨_, _, _, e3⟩ := k i w hw
      exact ⟨w.1, by rw [List.getElem?_map, hw]; rfl, e3⟩
  · have nsys : (s.heap.objs.size == sysModules) = false := beq_eq_false_iff_ne.mpr (Nat.ne_of_gt I.big)
    have size : (mergeK [] kvs).length ≤ sizeLine := by
      refine Nat.le_trans (length_mergeK kvs []) ?_
      have e1 := rel.length
      rw [List.length_map, l] at e1
      rw [List.length_nil, Nat.zero_add, e1]
      exact z
    exact ⟨.ref s.heap.objs.size, upd H s.heap.objs.size (.dK (mergeK [] kvs)), I.laid (t' := tk) (fun b o e => kp b o (by simp) e) (Nat.le_refl _) (show ObjOk X.prog X.w _ _ _ (.dK (mergeK [] kvs)) from ⟨size, nsys, _, KV.merge rel .nil, hd⟩), rfl,
      q _ (I.hok.fresh (Nat.le_refl _))⟩
end
/-- dict(xs), xs a list or a tuple of pairs -/
def dictSL : FL := fun xs S => match xs with
  | [x] => (match asTup x with
    | some ds => (match pairsD ds with
      | some ps => some (.loc S.length, S ++ [.dk (mergeA [] ps)])
      | none => none)
    | none => dictL xs S)
  | _ => none
section
variable {X : Cx} {G : Gx} {B ρ : List Addr} {S S' : Sto} {H : Hp}
theorem asTup_tt {d : D} {v : V} {ds : List D} (e : asTup d = some ds) (r : RV G B ρ H d v) : ∃ a vs, v = .ref a ∧ (Tt H a vs ∨ Rf.KT G.K a vs) ∧ RVs G B ρ H ds vs := by
  cases r with
  | p q =>
    cases q with
    | tup s t =>
      cases e
      exact ⟨_, _, rfl, s.imp id fun z => z.2, t.toD⟩
    | _ => cases e
  | loc ha => cases e
  | mix s t => cases e; exact ⟨_, _, rfl, .inl s, t⟩
  | mxl s b n t => cases e
theorem c_dict (hK : X.K = G.K) (hc : X.calm = true) : CallR X (.type "dict") (OL G dictSL) := CallR_imp (CallR.or (c_dictL (G := G) hK hc) (call_dictTup hc)) fun xc H Q ⟨B, ρ, S, xs, z, S', hs, rx, e, q⟩ => by
  unfold dictSL at e
  split at e
  · rename_i x
    split at e
    · rename_i ds hd
      split at e
      · rename_i ps hp
        cases e
        obtain ⟨v, rfl, r⟩ := rvs1 rx
        obtain ⟨p, vs, rfl, h1, t⟩ := asTup_tt hd r
        obtain ⟨as, ws, rfl, h2, h3⟩ := pairsD_ok hs t hp
        refine .inr ⟨p, as, ws, rfl, by rw [hK]; exact h1, by rw [hK]; exact h2, fun l hl => ?_⟩
        exact q (ρ ++ [l]) _ _ (Fr.push hl) (hs.push hl ⟨_, upd_same, (h3.merge .nil).mono (Fr.push hl) hs⟩) (rv_last hs.len)
      · cases e
    · exact .inl ⟨B, ρ, S, _, z, S', hs, rx, e, q⟩
  · cases e
end
end Rf
end

section
set_option Elab.async false
set_option linter.all false
set_option maxRecDepth 100000
set_option maxHeartbeats 4000000
/-! Rf21: comprehensions of dicts (keys ints or texts), over what does not change. -/
namespace Rf
open PySem L2
/-- one turn: the dict at n of the store grows -/
def dcT (n : Nat) (t : Tg) (tt : MT) (tk tv : ME) (σ0 : Slots) : D → Sto → Option Sto := fun x S => match t.mg x σ0 with
  | none => none
  | some σ1 => match tt σ1 S with
    | none => none
    | some (false, S1) => some S1
    | some (true, S1) => match tk σ1 S1 with
      | none => none
      | some (y, S2) => match tv σ1 S2 with
        | none => none
        | some (z, S3) => match keyOf y, S3[n]? with
          | some k, some (.dk kvs) => if kvs.length < 100000 then some (S3.set n (.dk (putA k z kvs))) else none
          | _, _ => none
def dcGo (T : D → Sto → Option Sto) : List D → Sto → Option Sto
  | [], S => some S
  | x :: r, S => match T x S with
    | none => none
    | some S1 => dcGo T r S1
def mDc (mi : MI) (t : Tg) (tt : MT) (tk tv : ME) (vs : List Nat) : ME := fun σ S => match mi σ S with
  | some (.items xs, S1) => (match dcGo (dcT S1.length t tt tk tv (wipeD σ vs)) xs (S1 ++ [.dk []]) with
    | some S2 => some (.loc S1.length, S2)
    | none => none)
  | _ => none
section
variable {X : Cx} {G : Gx} {kx vx tg iter : Expr} {ifs : List Expr} {scope : Scope} {own : List (Str × Nat)} {pos : Pos} {mi : MI} {t : Tg} {tt : MT} {tk tv : ME}
/-- a turn, by values -/
def tcD (G : Gx) (t : Tg) (tt : MT) (tk tv : ME) (vs : List Nat) (σ0c : L2.St) (D0 : Addr) : V → Hp → (Hp → Prop) → Prop := fun x H' Nx => t.tg G.K x (L2.wipe σ0c vs) H' fun σ2 H2 => L2.wipe σ2 vs = L2.wipe σ0c vs ∧ RdT G tt σ2 H2 fun b H3 =>
  if b = true then RdE G tk σ2 H3 fun y H4 => RdE G tv σ2 H4 fun z H5 => ∃ kvs k, y = kV k ∧ H5 D0 = some (.dK kvs) ∧ kvs.length < sizeLine ∧ Nx (upd H5 D0 (.dK (putK kvs k z))) else Nx H3
theorem dc_turn {B ρ : List Addr} {S S1 : Sto} {H : Hp} {σ : Slots} {σc : L2.St} {vs : List Nat} {x : D} {xc : V} {n : Nat} {D0 : Addr} {Nx : Hp → Prop} (hw : t.within vs = true) (hs : Hs G B ρ S H) (sl : Sl G B ρ H (wipeD σ vs) (L2.wipe σc vs)) (hD : ρ[n]? = some D0)
    (rx : RV G B ρ H x xc) (e : dcT n t tt tk tv (wipeD σ vs) x S = some S1) (k : ∀ ρ' H', Fr ρ H ρ' H' → Hs G B ρ' S1 H' → Nx H') : tcD G t tt tk tv vs σc D0 xc H Nx := by
  unfold dcT at e
  cases em : t.mg x (wipeD σ vs) with
  | none => rw [em] at e; cases e
  | some σ1 =>
    simp only [em] at e
    cases et : tt σ1 S with
    | none => rw [et] at e; cases e
    | some p =>
      obtain ⟨b, S2⟩ := p
      refine Tg.ok vs t sl rx em hw fun σc' sl' w' => ⟨w'.trans wipe_two, B, ρ, S, σ1, b, S2, hs, sl', et, fun ρ1 H1 f1 hs1 => ?_⟩
      cases b with
      | false =>
        simp only [et] at e
        cases e
        exact k ρ1 H1 f1 hs1
      | true =>
        simp only [et] at e
        cases ey : tk σ1 S2 with
        | none => rw [ey] at e; cases e
        | some p =>
          obtain ⟨y, S3⟩ := p
          simp only [ey] at e
          cases ez : tv σ1 S3 with
          | none => rw [ez] at e; cases e
          | some p =>
            obtain ⟨z, S4⟩ := p
            simp only [ez] at e
            split at e
            · rename_i key kvs hk hn
              split at e
              · rename_i hz
                cases e
                show RdE G tk σc' H1 _
                refine ⟨B, ρ1, S2, σ1, y, S3, hs1, sl'.mono f1 hs, ey, fun ρ2 yc H2 f2 hs2 ry => ⟨B, ρ2, S3, σ1, z, S4, hs2, (sl'.mono f1 hs).mono f2 hs1, ez, fun ρ3 zc H3 f3 hs3 rz => ?_⟩⟩
                have hD3 := pre_get f3.pre (pre_get f2.pre (pre_get f1.pre hD))
                obtain ⟨ws, h1, tw⟩ := hs3.obj n D0 _ hD3 hn
                have f : Fr ρ3 H3 ρ3 (upd H3 D0 (.dK (putK ws key zc))) := Fr.put (List.mem_of_getElem? hD3) (nofz h1)
                exact ⟨ws, key, keyOf_ok (ry.mono f3 hs2) hk, h1, by rw [← tw.length]; exact Nat.lt_of_lt_of_le hz (by decide), k ρ3 _ (((f1.trans f2).trans f3).trans f) (hs3.put hD3 (nofz h1) ⟨_, upd_same, (tw.put key rz).mono f hs3⟩)⟩
              · cases e
            · cases e
theorem dc_loop {B ρ : List Addr} {S S' : Sto} {H : Hp} {σ : Slots} {σc : L2.St} {vs : List Nat} {J : It} {xs : List D} {n : Nat} {D0 : Addr} {Qd : Hp → Prop} (hw : t.within vs = true) (hs : Hs G B ρ S H) (sl : Sl G B ρ H (wipeD σ vs) (L2.wipe σc vs)) (hD : ρ[n]? = some D0)
    (rj : RJ G B ρ H J (.items xs)) (e : dcGo (dcT n t tt tk tv (wipeD σ vs)) xs S = some S') (k : ∀ ρ' H', Fr ρ H ρ' H' → Hs G B ρ' S' H' → Qd H') : Loop J Qd (tcD G t tt tk tv vs σc D0) H := by
  refine ⟨fun i m H1 => i + m = xs.length ∧ ∃ ρ1 S1, Fr ρ H ρ1 H1 ∧ Hs G B ρ1 S1 H1 ∧ dcGo (dcT n t tt tk tv (wipeD σ vs)) (xs.drop i) S1 = some S', ⟨xs.length, Nat.zero_add _, ρ, S, Fr.refl, hs, e⟩, ?_⟩
  rintro i m H1 ⟨hm, ρ1, S1, fr, hs1, e1⟩
  obtain ⟨go, stop⟩ := rj B ρ1 S1 H1 inb fr.wo hs1 i
  cases m with
  | zero =>
    rw [List.drop_of_length_le (by omega)] at e1
    cases e1
    exact .inl ⟨stop (by omega), k ρ1 H1 fr hs1⟩
  | succ m =>
    have hi : i < xs.length := by omega
    have hx : xs[i]? = some xs[i] := List.getElem?_eq_getElem hi
    obtain ⟨g, y⟩ := go _ hx
    rw [List.drop_eq_getElem_cons hi] at e1
    unfold dcGo at e1
    split at e1
    · cases e1
    · rename_i S2 h2
      refine .inr ⟨g, fun H' => ∃ ρ', Fr ρ H ρ' H' ∧ Hs G B ρ' S2 H', fun H' ⟨ρ', f', h'⟩ => ⟨m, Nat.lt_succ_self m, by omega, ρ', S2, f', h', e1⟩, fun x H' hy => ?_⟩
      obtain ⟨f3, hs3, rx⟩ := y x H' hy
      have fr3 := fr.trans f3
      exact dc_turn hw hs3 (sl.mono fr3 hs) (pre_get fr3.pre hD) rx h2 fun ρ' H'' f4 hs4 => ⟨ρ', fr3.trans f4, hs4⟩
theorem e_dc (hc : X.calm = true) (hN : X.N.Nodup) (hi : PI X tg iter (RdI G mi)) (ok : BlkOk X.N X.env.scope scope own) (hg : HG X G scope tg t) (ht : HT X G scope ifs tt) (hk : HE X G scope kx tk) (hv : HE X G scope vx tv) (hw : t.within (own.map (·.2)) = true)
    (hs : ∀ x, foldedSetIterable iter X.env x = pure x := by intro _; rfl) : PE X (.DictComp kx vx [⟨tg, iter, ifs, 0⟩] scope pos) (RdE G (mDc mi t tt tk tv (own.map (·.2)))) :=
  PE_imp (pe_dc hc hN hi ok hg ht hk hv hs) fun σc H Q ⟨B, ρ, S, σ, v, S', hs, sl, e, k⟩ => by
    unfold mDc at e
    split at e
    · rename_i xs S1 hm
      split at e
      · rename_i S2 h2
        cases e
        refine ⟨B, ρ, S, σ, .items xs, S1, hs, sl, hm, fun ρ1 H1 J fr hs1 rj D0 hD => ?_⟩
        have f0 : Fr ρ1 H1 (ρ1 ++ [D0]) (upd H1 D0 (.dK [])) := Fr.push hD
        have hs2 : Hs G B (ρ1 ++ [D0]) (S1 ++ [.dk []]) (upd H1 D0 (.dK [])) := hs1.push hD ⟨[], upd_same, .nil⟩
        have hD2 : (ρ1 ++ [D0])[S1.length]? = some D0 := by rw [← hs1.len, List.getElem?_append_right (Nat.le_refl _), Nat.sub_self]; rfl
        have rj2 : RJ G B (ρ1 ++ [D0]) (upd H1 D0 (.dK [])) J (.items xs) := fun B' ρ' S'' H' hb fw hs' => by
          have fw2 : Fw B ρ1 H1 ρ' H' := by
            refine ⟨f0.pre.trans fw.pre, fun a o q na nb => ?_, fun a ha na => ?_, fun a o u q => fw.fz a o u (f0.fz a o u q)⟩
            · exact fw.keep a o (f0.keep a o q na) (f0.out q na) nb
            · by_cases hm : a ∈ ρ1 ++ [D0]
              · exact f0.new a hm na
              · have q := fw.new a ha hm
                have ne : a ≠ D0 := fun z => hm (by rw [z]; simp)
                rwa [upd_ne ne] at q
          exact rj B' ρ' S'' H' (fun b hb' => by
            rcases hb b hb' with q | q
            · exact .inl q
            · refine .inr ?_
              by_cases z : b = D0
              · rw [z]; exact hD
              · rwa [upd_ne z] at q) fw2 hs'
        exact dc_loop hw hs2 (((sl.mono fr hs).mono f0 hs1).wipe _) hD2 rj2 h2 fun ρ' H' f hs' => k ρ' _ H' ((fr.trans f0).trans f) hs' (.loc (pre_get f.pre hD2))
      · cases e
    · cases e
end
end Rf
end

section
set_option Elab.async false
set_option linter.all false
set_option maxRecDepth 100000
set_option maxHeartbeats 4000000
/-! Rf22: calls of a def that a name holds. -/
namespace Rf
open PySem L2
/-- f(..), f in slot i one of the module's defs -/
def mCallF (i : Nat) (F : Nat → Option FL) (a : MA) : ME := fun σ S => match σ[i]? with
  | some (some (.p (.fn j))) => (match F j with
    | some m => (match a σ S with
      | some (ds, S1) => m ds S1
      | none => none)
    | none => none)
  | _ => none
/-- the def number j keeps such a promise -/
structure CalOk (P : Program) (w : World) (K : PySem.W.Frag) (mg : Str → Option Value) (base : Heap) (G : Gx) (k j : Nat) (m : FL) : Prop where
  ex : ∃ (fd : FuncData) (ps : List Str) (sp : Sp), FnOk P w K mg base CX0 k (G.fa j) fd ps sp ∧ PySem.W.keepIn K (.ref (G.fa j)) = true ∧ Binds K fd ps [] ∧ ∀ vs H Q E, OL G m vs H Q → sp vs H Q E
section
variable {P : Program} {w : World} {K : PySem.W.Frag} {mg : Str → Option Value} {base : Heap} {G : Gx} {k j : Nat} {x : Str}
theorem CalOk.ofP {mf : List Rf.P → Option Rf.P} (C : DefOk P w K mg base x k (SpP G mf)) (h : mg x = some (.ref (G.fa j))) : CalOk P w K mg base G k j (callP mf) := by
  obtain ⟨f, fd, ps, F, hm, hk, hb⟩ := C.ex
  rw [h] at hm
  cases hm
  exact ⟨fd, ps, _, F, hk, hb, fun vs H Q E q => callP_ok q⟩
theorem CalOk.ofM {mm : FL} (C : DefOk P w K mg base x k (SpM G mm)) (h : mg x = some (.ref (G.fa j))) : CalOk P w K mg base G k j mm := by
  obtain ⟨f, fd, ps, F, hm, hk, hb⟩ := C.ex
  rw [h] at hm
  cases hm
  exact ⟨fd, ps, _, F, hk, hb, fun vs H Q E q => q⟩
end
section
variable {X : Cx} {G : Gx} {i k : Nat} {x : Str} {p pos : Pos} {e : Expr} {es : List Expr} {ma : MA} {F : Nat → Option FL}
theorem e_callF (A : ∀ j m, F j = some m → ∃ l, l ≤ k ∧ CalOk X.prog X.w X.K X.mg X.base G l j m) (hr : Room k X.A) (ha : PA X (e :: es) (RdA G ma)) (hN : X.N[i]? = some x := by rfl) (hv : Vis X.env.scope x := by first | exact Or.inl rfl | exact Or.inr (Or.inl rfl) | exact Or.inr (Or.inr rfl))
    (hdb : (x == ("__debug__" : Str)) = false := by decide) (hcd : (x == ("__classdict__" : Str)) = false := by decide)
    (he : starEach (e :: es) X.env = (false, eval e X.env) :: starEach es X.env := by rfl) (hpl : (backTo pos (starEach es X.env)).any (·.1) = false := by rfl) : PE X (.Call (.Name x p) (e :: es) [] pos) (RdE G (mCallF i F ma)) :=
  ⟨fun pins s σc H Q I h => by
    obtain ⟨B, ρ, S, σ, v, S', hs, sl, e0, kk⟩ := h
    unfold mCallF at e0
    split at e0
    · rename_i j hj
      split at e0
      · rename_i m hm
        split at e0
        · rename_i ds S1 hd
          obtain ⟨l, hl, C⟩ := A j m hm
          obtain ⟨fd, ps, sp, Fn, hk, hb, pr⟩ := C.ex
          obtain ⟨u, hu, ru⟩ := sl.at_ i _ hj
          have eu : u = .ref (G.fa j) := by
            cases ru with
            | p r => cases r; rfl
          subst eu
          refine (pe_callL (i := i) (f := G.fa j) (sp := sp) (dvs := []) (E := E0) Fn (hr.mono hl) hN hv hk hb .nil pass0 ha hdb hcd he hpl).run pins s σc H Q I ⟨hu, ?_⟩
          refine ⟨B, ρ, S, σ, ds, S1, hs, sl, hd, fun ρ1 vs H1 fr hs1 rs => ?_⟩
          show sp (vs ++ []) H1 Q E0
          rw [List.append_nil]
          exact pr vs H1 Q E0 ⟨B, ρ1, S1, ds, v, S', hs1, rs, e0, Po.step fr kk⟩
        · cases e0
      · cases e0
    · cases e0⟩
end
end Rf
end

section
set_option Elab.async false
set_option linter.all false
set_option maxRecDepth 100000
set_option maxHeartbeats 4000000
/-! Rf23: y = {k: v for ..}. -/
namespace Rf
open PySem L2 PyProof.Rows
section
variable {X : Cx} {G : Gx} {kx vx tg iter : Expr} {ifs : List Expr} {scope : Scope} {own : List (Str × Nat)} {pos spos py : Pos} {y : Str} {i : Nat}
/-- the dict is made and stored at a local name in one step -/
theorem ps_setDc {wi : TI} {g : TG} {tt : TT} {tk tv : TE} (calm : X.calm = true) (nd : X.N.Nodup) (hy : X.N[i]? = some y) (loc : X.env.scope.names.lookup y = some .local)
    (sw : swapsWith (.DictComp kx vx [⟨tg, iter, ifs, 0⟩] scope pos) (some (.Name y py)) spos.line X.env = pure true) (hi : PI X tg iter wi) (ok : BlkOk X.N X.env.scope scope own)
    (hg : ∀ (s : Shared) (H : Hp) (C : Addr) (cl : List (Str × Addr)) (fp : List Addr), PG (X.blk s H scope (compEnvC scope cl C X.env) fp) tg g) (ht : ∀ (s : Shared) (H : Hp) (C : Addr) (cl : List (Str × Addr)) (fp : List Addr), PTs (X.blk s H scope (compEnvC scope cl C X.env) fp) ifs tt)
    (hk : ∀ (s : Shared) (H : Hp) (C : Addr) (cl : List (Str × Addr)) (fp : List Addr), PE (X.blk s H scope (compEnvC scope cl C X.env) fp) kx tk) (hv : ∀ (s : Shared) (H : Hp) (C : Addr) (cl : List (Str × Addr)) (fp : List Addr), PE (X.blk s H scope (compEnvC scope cl C X.env) fp) vx tv)
    (hs : ∀ x, foldedSetIterable iter X.env x = pure x := by intro _; rfl) : PS X (.Assign [.Name y py] (.DictComp kx vx [⟨tg, iter, ifs, 0⟩] scope pos) spos) (tAsg (tDc wi g tt tk tv (own.map (·.2))) (gName i)) := by
  refine ⟨fun pins s σ H D I h => ?_⟩
  rw [exec_Assign_Name_used _ _ _ _ sw]
  refine wpAny_bind (wpAny_standAt (wpAny_bind ?_))
  show wpAny _ X.A (do let _ ← comprehension (.DictComp kx vx [⟨tg, iter, ifs, 0⟩] scope pos) scope X.env (firstIterPos [⟨tg, iter, ifs, 0⟩] pos) newDict false (eval iter X.env) (some (assign (.Name y py) X.env))) _ _ s
  have h0 : tDc wi g tt tk tv (own.map (·.2)) σ H (fun x H1 => gName i x σ H1 D.nx) := h
  refine wpAny_bind (thn (dc_core (Qf := fun _ s' => SP X pins D .next s') calm nd I hi ok hg ht hk hv hs h0 fun L C s' m H' I' q hn f => ?_) fun _ s' hq => wpAny_pure (wpAny_pure hq))
  show wpAny _ _ (assign (.Name y py) X.env (.ref L)) _ _ _
  refine wpAny_assign_Name (store_ok2 (v := V.ref L) I' nd hy (.inl loc) rfl (fun s2 I2 ⟨a, sb, ha⟩ => ?_) (.inr loc))
  obtain ⟨f0, f1, f2, f3, f4, f5⟩ := f
  have ne : C ≠ a := by
    rcases ha with z | z
    · rw [z]
      exact f1
    · exact fun e => f4 y a z e.symm
  exact ⟨m, hn.sameBut sb ne, fun h3 sb3 => ⟨_, H', I2.turned (t' := s2.toks) (fun b o hb e => (sb3.2 b hb).trans e) f0 f1 f3 f4 f5, q⟩⟩
theorem sw_dict {gs : List Comprehension} {l : Nat} {env : Env} (k : env.scope.kind = .function) (loc : env.scope.names.lookup y = some .local) (same : (py.line == pos.line) = true)
    (no : (scope.names.any fun (n, k) => n == y && (k == .local || k == .cell)) = false) : swapsWith (.DictComp kx vx gs scope pos) (some (.Name y py)) l env = pure true := by
  have k1 : env.kindOf y = some .local := loc
  have k2 : env.blockKind = .function := by unfold Env.blockKind; rw [k]; rfl
  unfold swapsWith
  simp only [k2, k1, no, Expr.pos, same]
  rfl
variable {mi : MI} {t : Tg} {tt : MT} {tk tv : ME}
theorem dc_imp {σc : L2.St} {H : Hp} {Q : VK} {vs : List Nat} (hw : t.within vs = true) (h : RdE G (mDc mi t tt tk tv vs) σc H Q) : tDc (RdI G mi) (t.tg G.K) (RdT G tt) (RdE G tk) (RdE G tv) vs σc H Q := by
  obtain ⟨B, ρ, S, σ, v, S', hs, sl, e, k⟩ := h
  unfold mDc at e
  split at e
  · rename_i xs S1 hm
    split at e
    · rename_i S2 h2
      cases e
      refine ⟨B, ρ, S, σ, .items xs, S1, hs, sl, hm, fun ρ1 H1 J fr hs1 rj D0 hD => ?_⟩
      have f0 : Fr ρ1 H1 (ρ1 ++ [D0]) (upd H1 D0 (.dK [])) := Fr.push hD
      have hs2 : Hs G B (ρ1 ++ [D0]) (S1 ++ [.dk []]) (upd H1 D0 (.dK [])) := hs1.push hD ⟨[], upd_same, .nil⟩
      have hD2 : (ρ1 ++ [D0])[S1.length]? = some D0 := by rw [← hs1.len, List.getElem?_append_right (Nat.le_refl _), Nat.sub_self]; rfl
      have rj2 : RJ G B (ρ1 ++ [D0]) (upd H1 D0 (.dK [])) J (.items xs) := fun B' ρ' S'' H' hb fw hs' => by
        have fw2 : Fw B ρ1 H1 ρ' H' := by
          refine ⟨f0.pre.trans fw.pre, fun a o q na nb => fw.keep a o (f0.keep a o q na) (f0.out q na) nb, fun a ha na => ?_, fun a o u q => fw.fz a o u (f0.fz a o u q)⟩
          by_cases hm : a ∈ ρ1 ++ [D0]
          · exact f0.new a hm na
          · have q := fw.new a ha hm
            have ne : a ≠ D0 := fun z => hm (by rw [z]; simp)
            rwa [upd_ne ne] at q
        exact rj B' ρ' S'' H' (fun b hb' => by
          rcases hb b hb' with q | q
          · exact .inl q
          · refine .inr ?_
            by_cases z : b = D0
            · rw [z]; exact hD
            · rwa [upd_ne z] at q) fw2 hs'
      exact dc_loop hw hs2 (((sl.mono fr hs).mono f0 hs1).wipe _) hD2 rj2 h2 fun ρ' H' f hs' => k ρ' _ H' ((fr.trans f0).trans f) hs' (.loc (pre_get f.pre hD2))
    · cases e
  · cases e
theorem s_setDc (calm : X.calm = true) (nd : X.N.Nodup) (hy : X.N[i]? = some y) (loc : X.env.scope.names.lookup y = some .local) (sw : swapsWith (.DictComp kx vx [⟨tg, iter, ifs, 0⟩] scope pos) (some (.Name y py)) spos.line X.env = pure true)
    (hi : PI X tg iter (RdI G mi)) (ok : BlkOk X.N X.env.scope scope own) (hg : HG X G scope tg t) (ht : HT X G scope ifs tt) (hk : HE X G scope kx tk) (hv : HE X G scope vx tv) (hw : t.within (own.map (·.2)) = true) (hs : ∀ x, foldedSetIterable iter X.env x = pure x := by intro _; rfl) :
    PS X (.Assign [.Name y py] (.DictComp kx vx [⟨tg, iter, ifs, 0⟩] scope pos) spos) (RdS G (sAsg (mDc mi t tt tk tv (own.map (·.2))) (gNm i))) :=
  PS_imp (ps_setDc calm nd hy loc sw hi ok hg ht hk hv hs) fun D σ H h => RdS_asg (fun Q h => dc_imp hw h) h
end
end Rf
end

section
set_option Elab.async false
set_option linter.all false
/-! # Suites that end with an exception in the air: where the mirror tells the class and the fields -/
namespace Rf
open PySem L2
/-- class (its place among the told classes), fields if it has a dict -/
abbrev Xi := Nat × Option (List (Str × V))
abbrev MX := Slots → Sto → Option (Xi × Slots × Sto)
abbrev MXe := Slots → Sto → Option (Xi × Sto)
def XOk (H : Hp) (d : Option Addr) : Option (List (Str × V)) → Prop
  | none => d = none
  | some l => ∃ a, d = some a ∧ H a = some (.xd l)
/-- a suite that raises -/
def TX (G : Gx) (W : WX) (m : MX) : TS := fun _ σc H => ∃ B ρ S σ x σ' S', Hs G B ρ S H ∧ Sl G B ρ H σ σc ∧ m σ S = some (x, σ', S') ∧
  ∀ ρ' σc' H' d, Fr ρ H ρ' H' → Hs G B ρ' S' H' → Sl G B ρ' H' σ' σc' → XOk H' d x.2 → W (.ref (G.ca x.1)) d σc' H'
/-- a term that raises -/
def TXe (G : Gx) (W : WX) (m : MXe) : TE := fun σc H _ => ∃ B ρ S σ x S', Hs G B ρ S H ∧ Sl G B ρ H σ σc ∧ m σ S = some (x, S') ∧
  ∀ ρ' H' d, Fr ρ H ρ' H' → Hs G B ρ' S' H' → XOk H' d x.2 → W (.ref (G.ca x.1)) d σc H'
def xSkip (ms : MS) (mx : MX) : MX := fun σ S => match ms σ S with
  | some (.nx, σ1, S1) => mx σ1 S1
  | _ => none
def xIf (t : MT) (a b : MX) : MX := fun σ S => match t σ S with
  | some (true, S1) => a σ S1
  | some (false, S1) => b σ S1
  | none => none
def xNever : MX := fun _ _ => none
def xOf (e : MXe) : MX := fun σ S => match e σ S with
  | some (x, S1) => some (x, σ, S1)
  | none => none
def eArg (a : MA) (r : MA) (c : Nat) : MXe := fun σ S => match a σ S with
  | some (ds, S1) => some ((c, none), S1)
  | none => none
section
variable {X : Cx} {G : Gx} {W : WX} {ms : MS} {mx my : MX} {me : MXe} {mt : MT} {ma : MA} {st : Stmt} {sts rest : List Stmt} {a c : Expr} {pos : Pos}
theorem x_skip (h1 : PS X st (RdS G ms)) (h2 : PSs X rest (TX G W mx)) : PSs X (st :: rest) (TX G W (xSkip ms mx)) :=
  PSs_imp (pss_cons h1 h2) fun D σc H ⟨B, ρ, S, σ, x, σ', S', hs, sl, e, k⟩ => by
    unfold xSkip at e
    split at e
    · rename_i σ1 S1 ea
      exact ⟨B, ρ, S, σ, .nx, σ1, S1, hs, sl, ea, fun ρ1 σc1 H1 fr hs1 sl1 => ⟨B, ρ1, S1, σ1, x, σ', S', hs1, sl1, e, fun ρ' σc' H' d fr' => k ρ' σc' H' d (fr.trans fr')⟩⟩
    · cases e
theorem x_here (h1 : PS X st (TX G W mx)) : PSs X (st :: rest) (TX G W mx) :=
  PSs_imp (pss_cons h1 (pss_never (X := X) (sts := rest))) fun D σc H h => h
theorem x_never : PS X st (TX G W xNever) := PS_imp ps_never fun D σc H ⟨B, ρ, S, σ, x, σ', S', hs, sl, e, k⟩ => by cases e
theorem x_nevers : PSs X sts (TX G W xNever) := PSs_imp pss_never fun D σc H ⟨B, ρ, S, σ, x, σ', S', hs, sl, e, k⟩ => by cases e
theorem x_if (hc : PT X c (RdT G mt)) (ha : PSs X sts (TX G W mx)) (hb : PSs X rest (TX G W my)) : PS X (.If c sts rest pos) (TX G W (xIf mt mx my)) :=
  PS_imp (ps_if hc ha hb) fun D σc H ⟨B, ρ, S, σ, x, σ', S', hs, sl, e, k⟩ => by
    unfold xIf at e
    cases ea : mt σ S with
    | none => rw [ea] at e; cases e
    | some p =>
      obtain ⟨t, S1⟩ := p
      rw [ea] at e
      refine ⟨B, ρ, S, σ, t, S1, hs, sl, ea, fun ρ1 H1 fr hs1 => ?_⟩
      cases t with
      | true => exact ⟨B, ρ1, S1, σ, x, σ', S', hs1, sl.mono fr hs, e, fun ρ' σc' H' d fr' => k ρ' σc' H' d (fr.trans fr')⟩
      | false => exact ⟨B, ρ1, S1, σ, x, σ', S', hs1, sl.mono fr hs, e, fun ρ' σc' H' d fr' => k ρ' σc' H' d (fr.trans fr')⟩
theorem TX_of {D : Ends} {σc : L2.St} {H : Hp} (h : TX G W (xOf me) D σc H) (Q : VK) : TXe G W me σc H Q := by
  obtain ⟨B, ρ, S, σ, x, σ', S', hs, sl, e, k⟩ := h
  unfold xOf at e
  split at e
  · rename_i x1 S1 ea
    cases e
    exact ⟨B, ρ, S, _, _, _, hs, sl, ea, fun ρ' H' d fr hs' xo => k ρ' σc H' d fr hs' (sl.mono fr hs) xo⟩
  · cases e
theorem x_ret (he : PE X a (TXe G W me)) : PS X (.Return (some a) pos) (TX G W (xOf me)) := PS_imp (ps_ret he) fun D σc H h => TX_of h _
theorem x_expr (he : PE X a (TXe G W me)) (hs : swapsWith a none pos.line X.env = pure false := by rfl) : PS X (.Expr a pos) (TX G W (xOf me)) := PS_imp (ps_expr he hs) fun D σc H h => TX_of h _
/-- raise C(e, ..), C without own __init__ -/
def eMk (a : MA) (c : Nat) : MXe := fun σ S => match a σ S with
  | some (ds, S1) => if ds.length ≤ 1000 then some ((c, none), S1) else none
  | none => none
theorem sizeOk {n : Nat} (h : n ≤ 1000) : n ≤ sizeLine := by rw [sizeLine_eq]; omega
/-- C(e, ..), an own exception class without own __init__; its context is None -/
theorem pmk_ownAN {t : TA} {C : Addr} {bmB : List Value} {Bn newId initId : String} {x : Str} {p : Pos} {e : Expr} {es : List Expr} (F : ExcBaseFacts Bn newId initId bmB) (q : PySem.W.excIn X.K C bmB newId = true) (gC : X.mg x = some (.ref C))
    (kC : PySem.W.keepIn X.K (.ref C) = true) (r : Raises X (.ref C)) (hg : Gl X x) (ha : PA X (e :: es) t) (hdb : (x == ("__debug__" : Str)) = false := by decide)
    (he : starEach (e :: es) X.env = (false, eval e X.env) :: starEach es X.env := by rfl) (hpl : (backTo pos (starEach es X.env)).any (·.1) = false := by rfl) :
    L2N.PMk X (.Call (.Name x p) (e :: es) [] pos) (fun σ H Q => t σ H fun vs H1 => vs.length ≤ sizeLine ∧ Q (.ref C) none H1) := by
  intro pins s0 σ H Q I h
  refine wpAny_Call_Name_kw (ld_glob I hg gC ?_ hdb)
  refine PySem.W.callWith_K (h₀ := X.base) I.ok.mod.kin kC (thn (ha.run pos pins s0 σ H _ I h) fun us s1 hh => ?_) he hpl
  obtain ⟨vs, H1, J, rv, hz, q1⟩ := hh
  refine ⟨J.kIn, ?_⟩
  obtain ⟨bm, N, nm, qn, bs, hd, sn, sub, ab, col, dd, k0, k1, k2, k3, k5, mN, hC, hN, hni, T⟩ := exc_obj J.kIn q
  have hl : us.length ≤ sizeLine := by rw [← rv.length]; exact hz
  exact wpAny_call_exc_subT F T hC hN hni (fun h' a hm => L2N.mk_of J hm r q1 (J.hok.gone hm.new)) hl
theorem x_raise {bmB : List Value} {Bn newId initId : String} {x : Str} {p : Pos} {e : Expr} {es : List Expr} {cn : Nat} (hcalm : X.calm = true) (tk : L2N.Takes X W) (F : ExcBaseFacts Bn newId initId bmB) (q : PySem.W.excIn X.K (G.ca cn) bmB newId = true) (gC : X.mg x = some (.ref (G.ca cn)))
    (kC : PySem.W.keepIn X.K (.ref (G.ca cn)) = true) (r : Raises X (.ref (G.ca cn))) (hg : Gl X x) (ha : PA X (e :: es) (RdA G ma)) (hdb : (x == ("__debug__" : Str)) = false := by decide)
    (he : starEach (e :: es) X.env = (false, eval e X.env) :: starEach es X.env := by rfl) (hpl : (backTo pos (starEach es X.env)).any (·.1) = false := by rfl) {pos' : Pos} :
    PS X (.Raise (some (.Call (.Name x p) (e :: es) [] pos)) none pos') (TX G W (xOf (eMk ma cn))) :=
  PS_imp (L2N.ps_raise hcalm tk (pmk_ownAN F q gC kC r hg ha hdb he hpl)) fun D σc H h => by
    obtain ⟨B, ρ, S, σ, x, S', hs, sl, e, k⟩ := TX_of h (fun _ _ => True)
    unfold eMk at e
    split at e
    · rename_i ds S1 ea
      split at e
      · rename_i hl
        cases e
        exact ⟨B, ρ, S, σ, ds, _, hs, sl, ea, fun ρ' vs H' fr hs' rs => ⟨by rw [← rs.length]; exact sizeOk hl, k ρ' H' none fr hs' rfl⟩⟩
      · cases e
    · cases e
end
end Rf
end

section
set_option Elab.async false
set_option linter.all false
/-! # Defs that raise, and their calls -/
namespace Rf
open PySem L2
def SpX (G : Gx) (mf : List P → Option Xi) : Sp := fun vs H _ E => ∃ B ps x, RPs G B [] H ps vs ∧ BarOk G B H ∧ mf ps = some x ∧
  ∀ d H', (∀ a o, H a = some o → H' a = some o) → XOk H' d x.2 → E (.ref (G.ca x.1)) d H'
def SpXM (G : Gx) (mf : List D → Sto → Option (Xi × Sto)) : Sp := fun vs H _ E => ∃ B ρ S ds x S', Hs G B ρ S H ∧ RVs G B ρ H ds vs ∧ mf ds S = some (x, S') ∧
  ∀ ρ' H' d, Fr ρ H ρ' H' → Hs G B ρ' S' H' → XOk H' d x.2 → E (.ref (G.ca x.1)) d H'
def bodyX (np n : Nat) (m : MX) : List P → Option Xi := fun ps => if ps.length = np then (match m (startD n (ps.map .p)) [] with
  | some (x, _, _) => some x
  | none => none) else none
def bodyXM (np n : Nat) (m : MX) : List D → Sto → Option (Xi × Sto) := fun ds S => if ds.length = np then (match m (startD n ds) S with
  | some (x, _, S') => some (x, S')
  | none => none) else none
abbrev WXE (E : XK) : WX := fun cls d _ H => E cls d H
section
variable {G : Gx}
theorem len_X {np n : Nat} {m : MX} {ps : List Str} (h : ps.length = np) : ∀ vs H Q E, SpX G (bodyX np n m) vs H Q E → vs.length = ps.length := fun vs H Q E ⟨B, ds, r, rs, hb, e, k⟩ => by
  unfold bodyX at e
  split at e
  · rename_i hl
    rw [← rs.length, hl, h]
  · cases e
theorem len_XM {np n : Nat} {m : MX} {ps : List Str} (h : ps.length = np) : ∀ vs H Q E, SpXM G (bodyXM np n m) vs H Q E → vs.length = ps.length := fun vs H Q E ⟨B, ρ, S, ds, z, S', hs, rs, e, k⟩ => by
  unfold bodyXM at e
  split at e
  · rename_i hl
    rw [← rs.length, hl, h]
  · cases e
theorem read_X {np : Nat} {m : MX} {N : List Str} {vs : List V} {H : Hp} {Q : VK} {E : XK} {D : Ends} (h : SpX G (bodyX np N.length m) vs H Q E) : TX G (WXE E) m D (L2.start N vs) H := by
  obtain ⟨B, ds, r, rs, hb, e, k⟩ := h
  have hs : Hs G B [] [] H := ⟨rfl, List.nodup_nil, hb.1, fun a h => by simp at h, fun i a o h => by simp at h, hb.2⟩
  unfold bodyX at e
  split at e
  · split at e
    · rename_i x σ' S' hm
      cases e
      exact ⟨B, [], [], _, _, σ', S', hs, start_sl N rs.toD, hm, fun ρ' σc' H' d fr hs' sl' xo => k d H' (fun a o e => fr.keep a o e (by simp)) xo⟩
    · cases e
  · cases e
theorem read_XM {np : Nat} {m : MX} {N : List Str} {vs : List V} {H : Hp} {Q : VK} {E : XK} {D : Ends} (h : SpXM G (bodyXM np N.length m) vs H Q E) : TX G (WXE E) m D (L2.start N vs) H := by
  obtain ⟨B, ρ, S, ds, x, S', hs, rs, e, k⟩ := h
  unfold bodyXM at e
  split at e
  · split at e
    · rename_i x σ' S' hm
      cases e
      exact ⟨B, ρ, S, _, _, σ', _, hs, start_sl N rs, hm, fun ρ' σc' H' d fr hs' sl' xo => k ρ' H' d fr hs' xo⟩
    · cases e
  · cases e
end
/-- a def that raises as it stands -/
structure DefX (P : Program) (w : World) (K : PySem.W.Frag) (mg : Str → Option Value) (base : Heap) (x : Str) (k : Nat) (sp : Sp) : Prop where
  ex : ∃ (f : Addr) (fd : FuncData) (ps : List Str), FnOk P w K mg base (L2N.CX P w) k f fd ps sp ∧ mg x = some (.ref f) ∧ PySem.W.keepIn K (.ref f) = true ∧ Binds K fd ps []
structure MethX (P : Program) (w : World) (K : PySem.W.Frag) (mg : Str → Option Value) (base : Heap) (C : Addr) (m : Str) (k : Nat) (sp : Sp) : Prop where
  ex : ∃ (f : Addr) (fd : FuncData) (ps : List Str), FnOk P w K mg base (L2N.CX P w) k f fd ps sp ∧ Cls K C ∧ Meth K C m f ∧ Binds K fd ps []
def xCallP (mf : List P → Option Xi) (a : MA) : MXe := fun σ S => match a σ S with
  | none => none
  | some (ds, S1) => match allP ds with
    | some ps => (match mf ps with
      | some x => some (x, S1)
      | none => none)
    | none => none
def xCallM (mf : List D → Sto → Option (Xi × Sto)) (a : MA) : MXe := fun σ S => match a σ S with
  | none => none
  | some (ds, S1) => mf ds S1
def xMeth (c0 : Nat) (m : Str) (mf : List D → Sto → Option (Xi × Sto)) (o : ME) (a : MA) : MXe := fun σ S => match o σ S with
  | none => none
  | some (x, S1) => match isIns c0 m x S1 with
    | false => none
    | true => match a σ S1 with
      | none => none
      | some (ds, S2) => mf (x :: ds) S2
section
variable {X : Cx} {G : Gx} {W : WX} {k : Nat} {x : Str} {p pos apos : Pos} {e o : Expr} {es : List Expr} {mr : MA} {mo : ME} {sp : Sp} {mf : List P → Option Xi} {mm : List D → Sto → Option (Xi × Sto)}
theorem x_callP (C : DefX X.prog X.w X.K X.mg X.base x k (SpX G mf)) (tk : L2N.Takes X W) (hr : Room k X.A) (hg : Gl X x) (ha : PA X (e :: es) (RdA G mr)) (hdb : (x == ("__debug__" : Str)) = false := by decide)
    (he : starEach (e :: es) X.env = (false, eval e X.env) :: starEach es X.env := by rfl) (hpl : (backTo pos (starEach es X.env)).any (·.1) = false := by rfl) :
    PE X (.Call (.Name x p) (e :: es) [] pos) (TXe G W (xCallP mf mr)) := by
  obtain ⟨f, fd, ps, F, hm, hk, hb⟩ := C.ex
  refine PE_imp (pe_callS F hr hg hm hk hb (fun σ => L2N.passAt tk σ) ha hdb he hpl) fun σc H Q ⟨B, ρ, S, σ, x, S', hs, sl, e, q⟩ => ?_
  unfold xCallP at e
  split at e
  · cases e
  · rename_i ds S1 ea
    split at e
    · rename_i ps hp
      split at e
      · rename_i x1 hx
        cases e
        refine ⟨B, ρ, S, σ, ds, _, hs, sl, ea, fun ρ1 vs H1 fr hs1 rs => ?_⟩
        have bar : ∀ a ∈ B ++ ρ1, ∃ o, H1 a = some o ∧ Chg o := fun a ha => by
          rcases List.mem_append.mp ha with ha | ha
          · exact hs1.bar a ha
          · exact hs1.chg ha
        rw [allP_eq hp] at rs
        exact ⟨B ++ ρ1, ps, _, rs.toP.bar fun p h1 h2 => ⟨by simp [h1, h2], by simp⟩, ⟨bar, hs1.inv⟩, hx, fun d H' kp xo => q ρ1 H' d (fr.trans (Fr.all kp)) (hs1.all kp) xo⟩
      · cases e
    · cases e
theorem xCallM_ok {σc : L2.St} {H : Hp} {Q : VK} (h : TXe G W (xCallM mm mr) σc H Q) : RdA G mr σc H fun vs H1 => SpXM G mm vs H1 Q (WE W σc) := by
  obtain ⟨B, ρ, S, σ, x, S', hs, sl, e, q⟩ := h
  unfold xCallM at e
  split at e
  · cases e
  · rename_i ds S1 ea
    exact ⟨B, ρ, S, σ, ds, S1, hs, sl, ea, fun ρ1 vs H1 fr hs1 rs => ⟨B, ρ1, S1, ds, x, S', hs1, rs, e, fun ρ' H' d fr' hs' xo => q ρ' H' d (fr.trans fr') hs' xo⟩⟩
theorem x_callM (C : DefX X.prog X.w X.K X.mg X.base x k (SpXM G mm)) (tk : L2N.Takes X W) (hr : Room k X.A) (hg : Gl X x) (ha : PA X (e :: es) (RdA G mr)) (hdb : (x == ("__debug__" : Str)) = false := by decide)
    (he : starEach (e :: es) X.env = (false, eval e X.env) :: starEach es X.env := by rfl) (hpl : (backTo pos (starEach es X.env)).any (·.1) = false := by rfl) :
    PE X (.Call (.Name x p) (e :: es) [] pos) (TXe G W (xCallM mm mr)) := by
  obtain ⟨f, fd, ps, F, hm, hk, hb⟩ := C.ex
  exact PE_imp (pe_callS F hr hg hm hk hb (fun σ => L2N.passAt tk σ) ha hdb he hpl) fun σc H Q h => xCallM_ok h
theorem x_meth {E : XK} {m : Str} {c0 : Nat} {ma : MA} {pl : Sem Bool} (M : MethX X.prog X.w X.K X.mg X.base (G.ca c0) m k (SpXM G mm)) (tk : L2N.Takes X (WXE E)) (hr : Room k X.A) (ho : PE X o (RdE G mo)) (ha : PA X (e :: es) (RdA G ma))
    (hst : starEach (e :: es) X.env = (false, eval e X.env) :: starEach es X.env := by rfl) (hpl : (backTo pos (starEach es X.env)).any (·.1) = false := by rfl)
    (ht : eval (.Call (.Attribute o m apos) (e :: es) [] pos) X.env = (do
      let ov ← eval o X.env
      standAt apos.atName
      let (f, first) ← holding [ov] (getMethod ov m pl)
      callWith pos f first (backTo pos (starEach (e :: es) X.env)) (backToKw pos (keywordEach [] X.env))) := by rfl) :
    PE X (.Call (.Attribute o m apos) (e :: es) [] pos) (TXe G (WXE E) (xMeth c0 m mm mo ma)) := by
  obtain ⟨f, fd, ps, F, hc, hm, hb⟩ := M.ex
  refine PE_imp (pe_meth ho hc hm F hr hb .nil (L2N.passes_call tk (fun _ _ _ _ h => h)) ha hst hpl ht) fun σc H Q ⟨B, ρ, S, σ, v, S', hs, sl, e, k⟩ => ?_
  unfold xMeth at e
  cases ea : mo σ S with
  | none => rw [ea] at e; cases e
  | some p =>
    obtain ⟨x, S1⟩ := p
    simp only [ea] at e
    cases ed : isIns c0 m x S1 with
    | false => rw [ed] at e; cases e
    | true =>
      simp only [ed] at e
      cases eb : ma σ S1 with
      | none => rw [eb] at e; cases e
      | some p =>
        obtain ⟨ds, S2⟩ := p
        simp only [eb] at e
        refine ⟨B, ρ, S, σ, x, S1, hs, sl, ea, fun ρ1 xc H1 f1 hs1 r1 => ?_⟩
        obtain ⟨a, dx, fs, rfl, e1, l⟩ := isIns_ok hs1 r1 ed
        exact ⟨a, dx, fs, rfl, e1, l, B, ρ1, S1, σ, ds, S2, hs1, sl.mono f1 hs, eb, fun ρ2 vs H2 f2 hs2 r2 => by
          show SpXM G mm (V.ref a :: (vs ++ [])) H2 Q E
          rw [List.append_nil]
          exact ⟨B, ρ2, S2, x :: ds, v, S', hs2, .cons (r1.mono f2 hs1) r2, e, fun ρ' H' d fr => k ρ' H' d ((f1.trans f2).trans fr)⟩⟩
end
end Rf
end

section
set_option Elab.async false
set_option linter.all false
set_option maxRecDepth 100000
set_option maxHeartbeats 4000000
/-! # Own exception classes over ValueError with an own __init__ that calls the __init__ of their base -/
namespace Rf
open PySem L2
def eqB (a b : Option Bool) : Bool := decide (a = b)
def eqV (a b : Option Value) : Bool := decide (a = b)
/-- what the written part must say of C (for OexC), of its base C0, of C's __init__ -/
def oexB (K : PySem.W.Frag) (C : Addr) : Bool :=
  (match K.lookup C with
  | some ⟨.type "type", dd, .cls cd, sl⟩ => (match cd.mro, sl.toList with
    | .ref C' :: bm, [_, _, _, _, some (.builtin n), _] => C' == C && (n == "ValueError.__new__" && (!cd.hasDel && (cd.hasDict && PySem.HandSPX.refsVE bm)))
    | _, _ => false)
  | _ => false) &&
  (eqO' (PySem.W.findIn K (.ref C) "__setattr__") (some (some (.builtin "object.__setattr__"))) && (eqB (PySem.W.subIn K (.ref C) (.type "BaseException")) (some true) && (eqV (PySem.W.typeIn K (.ref C)) (some (.type "type")) && PySem.W.keepIn K (.ref C))))
where eqO' (a b : Option (Option Value)) : Bool := decide (a = b)
theorem oexB_ok {K : PySem.W.Frag} {C : Addr} (h : oexB K C = true) : OexC K C := by
  unfold oexB at h
  simp only [Bool.and_eq_true] at h
  obtain ⟨h1, h2, h3, h4, h5⟩ := h
  refine ⟨?_, of_decide_eq_true h2, of_decide_eq_true h3, of_decide_eq_true h4, h5⟩
  split at h1
  · rename_i dd cd sl ho
    split at h1
    · rename_i C' bm k0 k1 k2 k3 n k5 hm hs
      simp only [Bool.and_eq_true, beq_iff_eq, Bool.not_eq_true'] at h1
      obtain ⟨rfl, rfl, hdel, hdict, hr⟩ := h1
      obtain ⟨nm, bs, mro, ns, qn, hd, sn, sub, ab, col, del⟩ := cd
      dsimp only at hm hdel hdict
      subst hm hdel hdict
      have hsl : sl = #[k0, k1, k2, k3, some (.builtin "ValueError.__new__"), k5] := by
        obtain ⟨l⟩ := sl
        simp only at hs
        rw [hs]
      subst hsl
      exact ⟨nm, qn, ns, bs, bm, sn, sub, ab, col, dd, k0, k1, k2, k3, k5, ho, hr⟩
    · cases h1
  · cases h1
def baseB (K : PySem.W.Frag) (C : Addr) : Bool :=
  PySem.W.readsIn K C (.type "type") && (oexB.eqO' (PySem.W.specialIn K (.ref C) "__getattribute__") (some (some (.builtin "type.__getattribute__"))) &&
    (match PySem.W.findCls K (.ref C) (.type "type") "__init__" with
    | some (.val (.builtin s)) => decide (s = "ValueError.__init__")
    | _ => false))
theorem baseB_ok {K : PySem.W.Frag} {C : Addr} (h : baseB K C = true) : PySem.W.readsIn K C (.type "type") = true ∧ PySem.W.specialIn K (.ref C) "__getattribute__" = some (some (.builtin "type.__getattribute__")) ∧
    PySem.W.findCls K (.ref C) (.type "type") "__init__" = some (.val (.builtin "ValueError.__init__")) := by
  unfold baseB at h
  simp only [Bool.and_eq_true] at h
  obtain ⟨h1, h2, h3⟩ := h
  refine ⟨h1, of_decide_eq_true h2, ?_⟩
  split at h3
  · rename_i s hs
    rw [hs, of_decide_eq_true h3]
  · cases h3
section
variable {X : Cx} {e : Expr} {es : List Expr} {ta : TA} {p1 p2 pos : Pos} {x : Str} {C0 : Addr}
/-- Base.__init__(self, ..) -/
theorem pe_beinit {pl : Sem Bool} (hg : Gl X x) (hm : X.mg x = some (.ref C0)) (b : baseB X.K C0 = true) (ha : PA X (e :: es) ta) (hdb : (x == ("__debug__" : Str)) = false := by decide)
    (hc : eval (.Call (.Attribute (.Name x p1) "__init__" p2) (e :: es) [] pos) X.env = (do
      let ov ← eval (.Name x p1) X.env
      standAt p2.atName
      let (f, first) ← holding [ov] (getMethod ov "__init__" pl)
      callWith pos f first (backTo pos (starEach (e :: es) X.env)) (backToKw pos (keywordEach [] X.env))) := by rfl)
    (he : starEach (e :: es) X.env = (false, eval e X.env) :: starEach es X.env := by rfl) (hpl : (backTo pos (starEach es X.env)).any (·.1) = false := by rfl) :
    PE X (.Call (.Attribute (.Name x p1) "__init__" p2) (e :: es) [] pos) (tVeI X.K ta) := by
  obtain ⟨b1, b2, b3⟩ := baseB_ok b
  refine ⟨fun pins s σ H Q I h => ?_⟩
  refine PySem.W.methodCall_KW (ld_glob I hg hm ?_ hdb) hc
  refine PySem.W.method_cls I.kIn b2 (PySem.W.cls_value I.kIn b1 b3 rfl ?_)
  show wpAny _ _ (callWith pos (Value.builtin "ValueError.__init__") [] (backTo pos (starEach (e :: es) X.env)) []) _ _ _
  refine PyProof.Rows.callWith_method1 (thn (ha.run pos pins _ σ H _ (I.tok _) h) fun us s1 ⟨vs, H1, I1, r1, a, C, ws, ev, hl, T, ea, q⟩ => ?_) he hpl
  subst ev
  cases r1 with
  | @cons _ u0 _ ur ra rw' =>
    obtain rfl : u0 = Value.ref a := ra
    have hlen : ur.length ≤ sizeLine := by
      rw [← Paired.length rw', sizeLine_eq]
      omega
    exact oinit_ok T I1 ea hlen fun s' J => ⟨.non, H1, J, rfl, q⟩
end
end Rf
end

section
set_option Elab.async false
set_option linter.all false
set_option maxRecDepth 100000
/-! # A hook with further facts; the __init__ of an exception with two fields -/
namespace Rf
open PySem L2
abbrev AlE : Type := AlG × Bool
def obsE (fa : List He.Fa) (fn : List He.DefD) (gs : List (Str × P)) (fns cls : List Str) (ex : PySem.W.Frag → Bool) (K : PySem.W.Frag) : AlE := (obsG fa fn gs fns cls K, ex K)
def obsEE (n : Nat) (fa : List He.Fa) (fn : List He.DefD) (gs : List (Str × P)) (fns cls : List Str) (ex : PySem.W.Frag → Bool) (g : Addr → Option Obj) : AlE := obsE fa fn gs fns cls ex (He.frG g (cStatics :: He.asD g n))
def hookE (n : Nat) (fa : List He.Fa) (fn : List He.DefD) (gs : List (Str × P)) (fns cls : List Str) (ex : PySem.W.Frag → Bool) : PySem.W.Hook where
  α := AlE
  obs := fun s => obsEE n fa fn gs fns cls ex s.heap.get?
  val := fun _ => ((He.valD fn, true), true)
  says := fun _ h => ∃ K : PySem.W.Frag, K.In h ∧ obsE fa fn gs fns cls ex K = ((He.valD fn, true), true)
  of := fun _ _ e => ⟨_, He.frG_in, e⟩
  keeps := fun _ _ _ ⟨K, hK, c⟩ k => ⟨K, PySem.W.Frag.In.keeps hK k, c⟩
theorem obsEE_eq {n : Nat} {fa : List He.Fa} {fn : List He.DefD} {gs : List (Str × P)} {fns cls : List Str} {ex : PySem.W.Frag → Bool} {g : Addr → Option Obj} {s : Shared} (h : ∀ a, g a = s.heap.get? a) : obsEE n fa fn gs fns cls ex g = (hookE n fa fn gs fns cls ex).obs s := by
  have e : g = s.heap.get? := funext h
  rw [e] <;> rfl
theorem WdE.of {fa : List He.Fa} {fn : List He.DefD} {gs : List (Str × P)} {fns cls : List Str} {ex : PySem.W.Frag → Bool} {K : PySem.W.Frag} {mg : Str → Option Value} {h : Heap} (X : K.In h) (N : h.Ns mainGlobals mg) (c : obsE fa fn gs fns cls ex K = ((He.valD fn, true), true)) : Wd fa fn gs fns cls K mg ∧ ex K = true :=
  ⟨Wd.of X N (congrArg (fun z : AlE => z.1) c), congrArg (fun z : AlE => z.2) c⟩
/-- C.__init__(self, n, w): Base.__init__(self, text of both); self.f = n; self.g = w -/
def spI (C : Addr) (f g : Str) (m : ME) : Sp := fun vs H Q _ => ∃ (a : Addr) (n : Int) (w z : Str), vs = [.ref a, .int n, .str w] ∧ m [none, some (.p (.int n)), some (.p (.str w))] [] = some (.p (.str z), []) ∧ H a = some (exo a C none) ∧
  ∀ H' d, (∀ b o, H b = some o → H' b = some o) → H' d = none → d ≠ a → Q .non (upd (upd (upd H' d (exd d [(f, .int n)])) a (exo a C (some d))) d (exd d [(g, .str w), (f, .int n)]))
def tInit (G : Gx) (K : PySem.W.Frag) (f g : Str) (m : ME) : TS := tSeq (tDrop (tVeI K (tCons (tVar 0) (tCons (RdE G m) tNil)))) (tSeq (tOst K f (tVar 0) (tVar 1)) (tOst K g (tVar 0) (tVar 2)))
theorem len_I {C : Addr} {f g : Str} {m : ME} {ps : List Str} (h : ps.length = 3) : ∀ vs H Q E, spI C f g m vs H Q E → vs.length = ps.length := fun vs H Q E ⟨a, n, w, z, e, _⟩ => by rw [e, h]; rfl
theorem read_I {G : Gx} (hG : ∀ H, G.inv H) {K : PySem.W.Frag} {C : Addr} {f g : Str} {m : ME} {N : List Str} {vs : List V} {H : Hp} {Q : VK} {E : XK} (hN : N.length = 3) (T : OexC K C) (hf : PySem.W.findIn K (.ref C) f = some none) (hg : PySem.W.findIn K (.ref C) g = some none)
    (h : spI C f g m vs H Q E) : tInit G K f g m { nx := fun _ H' => Q .non H', rt := Q } (L2.start N vs) H := by
  obtain ⟨a, n, w, z, rfl, e, ha, k⟩ := h
  have es : L2.start N [.ref a, .int n, .str w] = [some (.ref a), some (.int n), some (.str w)] := by
    unfold L2.start
    rw [hN]
    rfl
  rw [es]
  refine ⟨.ref a, rfl, ⟨[], [], [], [none, some (.p (.int n)), some (.p (.str w))], .p (.str z), [], ⟨rfl, List.nodup_nil, fun a h => by simp at h, fun a h => by simp at h, fun i a o h => by simp at h, hG H⟩, ⟨rfl, fun i d e => ?_⟩, e, fun ρ' vc H' fr hs' rv => ?_⟩⟩
  · match i, e with
    | 1, e => cases e; exact ⟨_, rfl, .p (.int n)⟩
    | 2, e => cases e; exact ⟨_, rfl, .p (.str w)⟩
    | (i + 3), e => simp at e
  · have kp : ∀ b o, H b = some o → H' b = some o := fun b o e => fr.keep b o e (by simp)
    have ha' := kp _ _ ha
    refine ⟨a, C, [vc], rfl, by simp, T, ha', ?_⟩
    refine ⟨.int n, rfl, .ref a, rfl, a, C, rfl, T, hf, .inl ⟨ha', fun d hd ne => ?_⟩⟩
    refine ⟨.str w, rfl, .ref a, rfl, a, C, rfl, T, hg, .inr ⟨d, [(f, .int n)], upd_same, ?_, by simp, k H' d kp hd ne⟩⟩
    rw [upd_ne ne, upd_same]
end Rf
end

section
set_option Elab.async false
set_option linter.all false
set_option maxRecDepth 100000
/-! # raise C(n, w) for C with own __init__ -/
namespace Rf
open PySem L2
def eMkO (m : ME) (f g : Str) (a : MA) (c : Nat) : MXe := fun σ S => match a σ S with
  | some ([.p (.int n), .p (.str w)], S1) => (match m [none, some (.p (.int n)), some (.p (.str w))] [] with
    | some (.p (.str _), []) => some ((c, some [(g, .str w), (f, .int n)]), S1)
    | _ => none)
  | _ => none
/-- a class with its __init__ as it stands -/
structure MkOk (P : Program) (w : World) (K : PySem.W.Frag) (mg : Str → Option Value) (base : Heap) (x : Str) (C : Addr) (k : Nat) (f g : Str) (m : ME) : Prop where
  ex : ∃ (fI : Addr) (fd : FuncData) (ps : List Str), FnOk P w K mg base CX0 k fI fd ps (spI C f g m) ∧ mg x = some (.ref C) ∧ PySem.W.findIn K (.ref C) "__init__" = some (some (.ref fI)) ∧ PySem.W.typeIn K (.ref fI) = some (.type "function") ∧ Binds K fd ps []
  oex : OexC K C
section
variable {X : Cx} {ta : TA} {e : Expr} {es : List Expr} {pos p : Pos}
/-- C(e, ..) with own __init__, its context None -/
theorem pmk_oexN {CX : CXT} {x : Str} {C fI : Addr} {k : Nat} {fd : FuncData} {ps : List Str} {sp : Sp} {ds : List Value} {dvs : List V} (T : OexC X.K C) (iC : PySem.W.findIn X.K (.ref C) "__init__" = some (some (.ref fI))) (tI : PySem.W.typeIn X.K (.ref fI) = some (.type "function"))
    (F1 : FnOk X.prog X.w X.K X.mg X.base CX k fI fd ps sp) (hr : Room (k + 1) X.A) (hb : Binds X.K fd ps ds) (hd : Vals dvs ds) (hx : Passes CX X (fun _ _ _ => False)) (hg : Gl X x) (hm : X.mg x = some (.ref C)) (ha : PA X (e :: es) ta)
    (hdb : (x == ("__debug__" : Str)) = false := by decide) (he : starEach (e :: es) X.env = (false, eval e X.env) :: starEach es X.env := by rfl) (hpl : (backTo pos (starEach es X.env)).any (·.1) = false := by rfl) :
    L2N.PMk X (.Call (.Name x p) (e :: es) [] pos) (tMkO C sp dvs ta) := by
  intro pins s0 σ H Q I h
  obtain ⟨nm, qn, N, bs, bm, sn, sub, ab, col, dd, k0, k1, k2, k3, k5, hC, hbm⟩ := T.cls
  refine wpAny_Call_Name_kw (ld_glob I hg hm ?_ hdb)
  refine PySem.W.callWith_K (h₀ := X.base) I.ok.mod.kin T.kC (thn (ha.run pos pins s0 σ H _ I h) fun us s1 hh => ?_) he hpl
  obtain ⟨vs, H1, J, rv, hz, q1⟩ := hh
  refine ⟨J.kIn, ?_⟩
  show wpAny _ _ (call (.ref C) us) _ _ _
  obtain ⟨hp, g, dr, tk, os⟩ := s1
  have hsz : hp.objs.size ≤ hp.objs.size + 1 := Nat.le_succ _
  have hq := q1 (hp.objs.size + 1) (J.hok.fresh hsz)
  have kk : ∀ b o, hp.get? b = some o → ((hp.push (PySem.W.kdv_tup us)).push (PySem.HandSPX.excO C hp.objs.size)).get? b = some o := fun b o z => Heap.get?_push_of_some _ (Heap.get?_push_of_some _ z)
  have hget : ((hp.push (PySem.W.kdv_tup us)).push (PySem.HandSPX.excO C hp.objs.size)).get? (hp.objs.size + 1) = some (PySem.HandSPX.excO C hp.objs.size) := by heap_get
  have J2 : Inv X pins σ (upd H1 (hp.objs.size + 1) (exo (hp.objs.size + 1) C none)) ⟨(hp.push (PySem.W.kdv_tup us)).push (PySem.HandSPX.excO C hp.objs.size), g, dr, tk, os⟩ := J.laid (t' := tk) (a := hp.objs.size + 1) (o := exo (hp.objs.size + 1) C none) kk hsz (exo_ok hget)
  have rv2 : Vals (V.ref (hp.objs.size + 1) :: (vs ++ dvs)) (Value.ref (hp.objs.size + 1) :: (us ++ ds)) := .cons rfl (rv.append hd)
  have hl : (Value.ref (hp.objs.size + 1) :: us ++ ds).length = ps.length := by
    rw [← F1.len _ _ _ _ hq]
    exact rv2.length.symm
  have hus : us.length ≤ sizeLine := by
    rw [← Paired.length rv, sizeLine_eq]
    omega
  refine wpAny_call (PySem.HandSPX.call_own F.excBase_ValueError (fun Y => PySem.HandSPX.refsVE_contains Y bm hbm) (J.kIn _ _ hC) (PySem.W.looks_findIn J.kIn iC) (fun self => PySem.W.bind_fn J.kIn self tI) hus
    (codeAny_mono (F1.run _ X.stack _ _ ⟨Value.ref (hp.objs.size + 1) :: us, []⟩ (Value.ref (hp.objs.size + 1) :: (us ++ ds)) _ _ (fun _ _ _ => False) (hr.make C us []) (J2.env0.make C us []) (hb _ (Value.ref (hp.objs.size + 1) :: us) J2.kIn hl) rv2 hq) fun r s' hq' => ?_))
  match r, hq' with
  | .error er, hq' => exact hx pins σ _ _ er s' J2 hq'
  | .ok (.ret u), hq' =>
    obtain ⟨v, H2, os2, bare2, un2, hok2, ru, ev, d, fs, ea, ed, hd1, q2⟩ := hq'
    subst ev
    obtain ⟨h2, g2, d2, t2, os'⟩ := s'
    obtain ⟨t0, Gh, J3, kG, ge, hoe, na⟩ := mk_end0 (d2 := d2) (t2 := t2) J hsz kk un2 hok2 os2 bare2 ea ed hd1
    exact ⟨ru, hp.objs.size + 1, _, _, ⟨Gh, g2, d2, t2, os'⟩, _, .ref C, some d, rfl, J3, kG, ge, hoe, ⟨rfl, rfl, fun vs hv => by cases hv; rfl⟩, rfl, rfl, na, rfl, bare2, raises_own T.exC T.tyC, q2⟩
  | .ok .next, hq' => exact False.elim hq'
  | .ok .brk, hq' => exact False.elim hq'
  | .ok .cont, hq' => exact False.elim hq'
end
section
variable {X : Cx} {G : Gx} {W : WX} {m : ME} {f g : Str} {ma : MA} {cn k : Nat} {x : Str} {p pos pos' : Pos} {e : Expr} {es : List Expr}
theorem x_raiseO (hcalm : X.calm = true) (tk : L2N.Takes X W) (M : MkOk X.prog X.w X.K X.mg X.base x (G.ca cn) k f g m) (hr : Room (k + 1) X.A) (hg : Gl X x) (ha : PA X (e :: es) (RdA G ma)) (hdb : (x == ("__debug__" : Str)) = false := by decide)
    (he : starEach (e :: es) X.env = (false, eval e X.env) :: starEach es X.env := by rfl) (hpl : (backTo pos (starEach es X.env)).any (·.1) = false := by rfl) :
    PS X (.Raise (some (.Call (.Name x p) (e :: es) [] pos)) none pos') (TX G W (xOf (eMkO m f g ma cn))) := by
  obtain ⟨fI, fd, ps, F, hm, iC, tI, hb⟩ := M.ex
  refine PS_imp (L2N.ps_raise hcalm tk (pmk_oexN M.oex iC tI F hr hb .nil pass0 hg hm ha hdb he hpl)) fun D σc H h => ?_
  obtain ⟨B, ρ, S, σ, x, S', hs, sl, e, q⟩ := TX_of h (fun _ _ => True)
  unfold eMkO at e
  split at e
  · rename_i n w S1 ea
    split at e
    · rename_i z em
      cases e
      refine ⟨B, ρ, S, σ, _, _, hs, sl, ea, fun ρ1 vs H1 fr hs1 rs => ?_⟩
      cases rs with
      | cons r1 rs =>
        cases rs with
        | cons r2 rs =>
          cases rs
          cases r1
          rename_i r1
          cases r1
          cases r2
          rename_i r2
          cases r2
          refine ⟨by simp, fun a hna => ⟨a, n, w, z, rfl, em, upd_same, fun H' d kp hd ne => ⟨rfl, d, _, ?_, upd_same, ?_, ?_⟩⟩⟩
          · rw [upd_ne (Ne.symm ne), upd_same]
          · cases q1 : H1 d with
            | none => rfl
            | some o =>
              have := kp d o (by rw [upd_ne ne]; exact q1)
              rw [hd] at this
              cases this
          · have kq : ∀ b o, H1 b = some o → upd (del (upd (upd (upd H' d (exd d [(f, V.int n)])) a (exo a (G.ca cn) (some d))) d (exd d [(g, V.str w), (f, V.int n)])) a) d (HO.xd [(g, V.str w), (f, V.int n)]) b = some o := fun b o hb => by
              have nb : b ≠ a := fun z => by rw [z, hna] at hb; cases hb
              have h' := kp b o (by rw [upd_ne nb]; exact hb)
              have nd : b ≠ d := fun z => by rw [z, hd] at h'; cases h'
              rw [upd_ne nd, del_ne nb, upd_ne nd, upd_ne nb, upd_ne nd]
              exact h'
            exact q ρ1 _ (some d) (fr.trans (Fr.all kq)) (hs1.all kq) ⟨d, rfl, upd_same⟩
    · cases e
  · cases e
end
end Rf
end

section
set_option Elab.async false
set_option linter.all false
set_option maxRecDepth 100000
/-! # for whose first turn raises; a method of a built-in one whose argument raises -/
namespace Rf
open PySem L2
def xFor (mi : MI) (g : MG) (b : MX) : MX := fun σ S => match mi σ S with
  | some (.items (x :: _), S1) => (match g x σ S1 with
    | some (σ1, S2) => b σ1 S2
    | none => none)
  | _ => none
def xMt1 (T : String) (o : ME) (a : MXe) : MXe := fun σ S => match o σ S with
  | some (x, S1) => if tyD T x S1 = true then a σ S1 else none
  | none => none
section
variable {X : Cx} {G : Gx} {W : WX} {mi : MI} {mg : MG} {mx : MX} {mo : ME} {me : MXe} {tg iter o a : Expr} {sts : List Stmt} {pos apos cpos : Pos} {T : String} {name : Str} {id : String} {f : D → List D → Sto → Option (D × Sto)}
theorem x_for (hp : PassesOwn (model X.prog X.w) X.A X.env X.xe) (hc : X.calm = true) (hi : PI X tg iter (RdI G mi)) (hg : PG X tg (RdG G mg)) (hb : PSs X sts (TX G W mx)) (hs : ∀ x, foldedSetIterable iter X.env x = pure x := by intro _; rfl) : PS X (.For tg iter sts [] pos) (TX G W (xFor mi mg mx)) :=
  PS_imp (ps_for hp hc hi hg hb hs) fun D σc H ⟨B, ρ, S, σ, x, σ', S', hs, sl, e, k⟩ => by
    unfold xFor at e
    split at e
    · rename_i x0 xs S1 ea
      split at e
      · rename_i σ1 S2 eg
        refine ⟨B, ρ, S, σ, _, S1, hs, sl, ea, fun ρ1 H1 J fr hs1 rj => ?_⟩
        refine ⟨fun i m σc1 H2 => i = 0 ∧ σc1 = σc ∧ H2 = H1, ⟨0, rfl, rfl, rfl⟩, ?_⟩
        rintro i m σc1 H2 ⟨rfl, rfl, rfl⟩
        obtain ⟨go, stop⟩ := rj B ρ1 S1 H2 (fun b h => .inl h) Fr.refl.w hs1 0
        obtain ⟨g1, g2⟩ := go x0 rfl
        refine .inr ⟨g1, fun _ _ => False, fun _ _ z => z.elim, fun xc H3 y => ?_⟩
        obtain ⟨fr3, hs3, rx⟩ := g2 xc H3 y
        exact ⟨B, ρ1, S1, σ, x0, σ1, S2, hs3, (sl.mono fr hs).mono fr3 hs1, rx, eg, fun ρ4 σc4 H4 fr4 hs4 sl4 => ⟨B, ρ4, S2, σ1, x, σ', S', hs4, sl4, e, fun ρ' σc' H' d fr' => k ρ' σc' H' d (((fr.trans fr3).trans fr4).trans fr')⟩⟩
      · cases e
    · cases e
theorem x_mt1 (pa : PlainAttrs T) (slot : Slot T name id) (hty : typeOf (.builtin id) = pure (.type "method_descriptor")) (hm : MtR X id (OM G f)) (ho : PE X o (RdE G mo)) (ha : PE X a (TXe G W me))
    (hbase : attributeBase o name X.env (eval o X.env) = eval o X.env := by rfl)
    (hfew : ((backTo cpos (starEach [a] X.env)).all (fun x => !x.1) && (backToKw cpos (keywordEach [] X.env)).all (fun x => x.1.isSome)
      && decide ([a].length + ([] : List Keyword).length + (if ([] : List Keyword).isEmpty then 0 else 1) < 30)) = true := by rfl)
    (hline : (apos.endLine == cpos.line) = true := by rfl) (hs : starEach [a] X.env = (false, eval a X.env) :: starEach [] X.env := by rfl) (hplain : (backTo cpos (starEach [] X.env)).any (·.1) = false := by rfl) :
    PE X (.Call (.Attribute o name apos) [a] [] cpos) (TXe G W (xMt1 T mo me)) :=
  PE_imp (pe_bm pa slot hty hm ho (pa_cons ha pa_nil hs) hbase hfew hline hs hplain) fun σc H Q ⟨B, ρ, S, σ, x, S', hs, sl, e, k⟩ => by
    unfold xMt1 at e
    split at e
    · rename_i x0 S1 ea
      split at e
      · rename_i et
        exact ⟨B, ρ, S, σ, x0, S1, hs, sl, ea, fun ρ1 xc H1 f1 hs1 r1 => ⟨tyD_ok hs1 r1 et, B, ρ1, S1, σ, x, S', hs1, sl.mono f1 hs, e, fun ρ' H' d fr' => k ρ' H' d (f1.trans fr')⟩⟩
      · cases e
    · cases e
end
end Rf
end

section
set_option Elab.async false
set_option linter.all false
set_option maxRecDepth 100000
set_option maxHeartbeats 4000000
/-! # While an exception is handled: a list comprehension over a range, calls of a def that is told which exception it is, isinstance and fields of that exception; try .. except -/
namespace Rf
open PySem PySem.Spec PyProof.Rows L2
/-! ### a list comprehension -/
abbrev blkH (X : Cx) (s : Shared) (H : Hp) (scope : Scope) (ce : Env) (fp : List Addr) : Cx := { X.blk s H scope ce fp with pn := X.pn }
theorem Inv.repin {X : Cx} {pn : List (Addr × Obj)} {σ : L2.St} {H : Hp} {s : Shared} (I : Inv X [] σ H s) (hp : ∀ p ∈ pn, s.heap.get? p.1 = some p.2 ∧ H p.1 = none ∧ p.1 ≠ X.env.locals ∧ p.1 ∉ X.fs ∧ ∀ v, p.2.data ≠ .cell v) : Inv { X with pn := pn } [] σ H s :=
  ⟨⟨I.ok.mod, I.ok.kind, I.ok.glob, I.ok.blt, I.ok.above, I.ok.inj, I.ok.has, I.ok.cab, I.ok.hd, I.ok.frames, I.ok.stk, I.ok.exf, I.ok.bs, I.ok.bsz, I.ok.noex, I.ok.exfs, I.ok.funs, I.ok.frf⟩, I.os, I.bare, I.base, I.loc, I.cell, I.free, I.freeC, fun p h => hp p (by simpa using h), I.hok, I.len⟩
section
variable {X : Cx}
theorem lc_coreH {pins : List (Addr × Obj)} {s : Shared} {σ : L2.St} {H : Hp} {Q : VK} {elt tg iter : Expr} {ifs : List Expr} {scope : Scope} {own : List (Str × Nat)} {pos pos' : Pos} {wi : TI} {g : TG} {tt : TT} {te : TE} {use : Option (Value → Sem Unit)} {Qf : Value → Shared → Prop}
    (hot : L2H.HotC X) (hN : X.N.Nodup) (I : Inv X pins σ H s) (hi : L2H.PIH X tg iter wi) (ok : BlkOk X.N X.env.scope scope own)
    (hg : ∀ (s : Shared) (H : Hp) (C : Addr) (cl : List (Str × Addr)) (fp : List Addr), PG (blkH X s H scope (compEnvC scope cl C X.env) fp) tg g) (ht : ∀ (s : Shared) (H : Hp) (C : Addr) (cl : List (Str × Addr)) (fp : List Addr), PTs (blkH X s H scope (compEnvC scope cl C X.env) fp) ifs tt)
    (he : ∀ (s : Shared) (H : Hp) (C : Addr) (cl : List (Str × Addr)) (fp : List Addr), PE (blkH X s H scope (compEnvC scope cl C X.env) fp) elt te) (hs : ∀ x, foldedSetIterable iter X.env x = pure x)
    (h : tLc wi g tt te (own.map (·.2)) σ H Q)
    (hR : ∀ D C s' m H', Inv X pins σ H' s' → Q (.ref D) H' → s'.heap.Ns C m → FpOk X pins H' C → compPost (model X.prog X.w) X.A X.xe use Qf (.ref D) C (.ok .next) s') :
    wpAny (model X.prog X.w) X.A (comprehension (.ListComp elt [⟨tg, iter, ifs, 0⟩] scope pos) scope X.env pos' (newList []) false (eval iter X.env) use) Qf X.xe s := by
  have cl : ∀ y ∈ scope.names, y.2 = .free → ∃ c, X.env.cells.lookup y.1 = some c := fun y hy e => (ok.free y hy e).elim (fun k => I.ok.has _ (.inl k)) fun k => I.ok.has _ (.inr k)
  refine wpAny_comprehension_free (use := use) rfl hs (closure_ok cl) ok.kind (fun y hy e => by rw [ok.uniq y hy, e]) (thn (hi.run pins s σ H _ I h) fun xv s1 hx => thn hx fun itv s2 h2 => ?_)
  obtain ⟨it, fp, tn, J, H2, rfl, I2, T, st2, f2, q⟩ := h2
  refine wpAny_newObj_type (newEnv_comp ?_) (by show 0 ≤ sizeLine; decide)
  generalize hD : s2.heap.objs.size = D
  have hDn : H2 D = none := I2.hok.fresh (Nat.le_of_eq hD)
  obtain ⟨W, ⟨m0, w0⟩, turn⟩ := q D hDn
  generalize hs3 : ({ s2 with heap := s2.heap.push { cls := .type "list", data := .seq ([] : List Value).toArray } } : Shared) = s3
  have h3 : s3.heap = s2.heap.push { cls := .type "list", data := .seq ([] : List Value).toArray } := by rw [← hs3]
  have I3 : Inv X pins σ (upd H2 D (.lst [])) s3 := by
    rw [← hs3]
    exact I2.laid (t' := s2.toks) (fun b o e => Heap.get?_push_of_some _ e) (Nat.le_of_eq hD) ⟨Nat.zero_le _, [], 0, .nil, by rw [← hD]; exact Heap.get?_push_size _ rfl⟩
  have f3 : ∀ b ∈ fp, FpOk X pins (upd H2 D (.lst [])) b ∧ b < s3.heap.objs.size := fun b hb => by
    obtain ⟨o, e, _⟩ := T.obj _ _ st2 b hb
    have lt := Heap.lt_size e
    exact ⟨⟨by rw [upd_ne (by rw [← hD]; exact Nat.ne_of_lt lt)]; exact (f2 b hb).1, (f2 b hb).2⟩, by rw [h3, Heap.size_push]; exact Nat.lt_succ_of_lt lt⟩
  have st3 : tn 0 s3.heap := T.keep _ _ _ st2 fun b _ o e => by rw [h3]; exact Heap.get?_push_of_some _ e
  have kc : ∀ b o, s3.heap.get? b = some o → (pushCells (s3.heap.push { cls := .type "dict", data := .dict #[] }) scope.names).get? b = some o := fun b o e => pushCells_keeps _ _ _ _ (Heap.get?_push_of_some _ e)
  have I4 := Inv.repin (pn := X.pn) (block_start I3 ok hN f3) fun p hp => by
    obtain ⟨p1, p2, p3, p4, p5⟩ := I3.pin p (List.mem_append_left _ hp)
    exact ⟨kc _ _ p1, p2, Nat.ne_of_lt (Heap.lt_size p1), fun hm => (List.mem_cons.mp (I3.stkSub p.1 hm)).elim p3 p4, p5⟩
  have pg := hg s3 (upd H2 D (.lst [])) s3.heap.objs.size (cellsFrom (s3.heap.objs.size + 1) scope.names (cloFrom X.env.cells scope.names [])) fp
  have pt := ht s3 (upd H2 D (.lst [])) s3.heap.objs.size (cellsFrom (s3.heap.objs.size + 1) scope.names (cloFrom X.env.cells scope.names [])) fp
  have pe := he s3 (upd H2 D (.lst [])) s3.heap.objs.size (cellsFrom (s3.heap.objs.size + 1) scope.names (cloFrom X.env.cells scope.names [])) fp
  show codeAny _ _ (.compStart (.ListComp elt [⟨tg, iter, ifs, 0⟩] scope pos) 0 (.ref it) (.ref D) (compEnvC scope (cellsFrom (s3.heap.objs.size + 1) scope.names (cloFrom X.env.cells scope.names [])) s3.heap.objs.size X.env)) (compPost (model X.prog X.w) X.A X.xe use Qf (.ref D) s3.heap.objs.size) { s3 with heap := pushCells (s3.heap.push { cls := .type "dict", data := .dict #[] }) scope.names }
  have nfp : ∀ b ∈ fp, (upd H2 D (.lst [])) b = none := fun b hb => (f3 b hb).1.1
  generalize hce : compEnvC scope (cellsFrom (s3.heap.objs.size + 1) scope.names (cloFrom X.env.cells scope.names [])) s3.heap.objs.size X.env = ce at I4 pg pt pe ⊢
  have cL : ce.locals = s3.heap.objs.size := by subst hce; rfl
  generalize hH3 : upd H2 D (.lst []) = H3 at I3 I4 pg pt pe w0 nfp f3
  generalize hs4 : ({ s3 with heap := pushCells (s3.heap.push { cls := .type "dict", data := .dict #[] }) scope.names } : Shared) = s4 at I4 ⊢
  have st4 : tn 0 s4.heap := T.keep _ _ _ st3 fun b _ o e => by rw [← hs4]; exact kc _ _ e
  have I4 : Inv (blkH X s3 H3 scope ce fp) [] (wipe σ (own.map (·.2))) H3 s4 := I4
  have hotB : L2H.HotC (blkH X s3 H3 scope ce fp) := hot
  have stat : ∀ {σ' : L2.St} {H' : Hp} {s' : Shared}, Inv (blkH X s3 H3 scope ce fp) [] σ' H' s' → (∀ b ∈ fp, H' b = none) → ∀ b ∈ fp, FpOk (blkH X s3 H3 scope ce fp) [] H' b := fun {σ' H' s'} I' hn b hb =>
    ⟨hn b hb, (I'.ok.exf b hb).1, I'.ok.exfs b hb, .inl hb, fun x c e => (I'.ok.exf b hb).2 x c e, fun p hp => (f3 b hb).1.2.2.2.2.2 p (List.mem_append_left _ (by simpa using hp))⟩
  have loop : codeAny (model X.prog X.w) X.A (.compLoop (.ListComp elt [⟨tg, iter, ifs, 0⟩] scope pos) 0 (.ref it) (.ref D) ce) (compPost (model X.prog X.w) X.A X.xe use Qf (.ref D) s3.heap.objs.size) s4 := by
    refine compLoop_any (fun n s' => ∃ i H', Inv (blkH X s3 H3 scope ce fp) [] (wipe σ (own.map (·.2))) H' s' ∧ tn i s'.heap ∧ (∀ b ∈ fp, H' b = none) ∧ W i n H') ?_ m0 ⟨0, H3, I4, st4, nfp, w0⟩
    rintro n s5 ⟨i, H5, I5, st5, n5, w5⟩
    rcases turn i n H5 w5 with ⟨stop, qq⟩ | ⟨go, Nx, hNx, step⟩
    · refine thnF (T.done (blkH X s3 H3 scope ce fp) rfl rfl rfl hotB i [] s5 _ H5 (fun _ _ => False) I5 (stat I5 n5) st5 stop) fun r s6 hr => ?_
      obtain ⟨rfl, I6⟩ := hr
      have I7 : Inv X pins σ H5 s6 := I3.call' (ch := fp) I6.os I6.base I6.hok I6.bare fun b hb => ⟨(f3 b hb).1.2.2.2.1, (f3 b hb).1.2.1, (f3 b hb).1.2.2.2.2.1, (f3 b hb).1.2.2.2.2.2⟩
      have nC : H5 s3.heap.objs.size = none := by
        have z : H5 ce.locals = none := I6.free
        rw [cL] at z
        exact z
      obtain ⟨m, hn, _⟩ := I6.loc
      have hn : s6.heap.Ns ce.locals m := hn
      rw [cL] at hn
      exact hR D s3.heap.objs.size s6 m H5 I7 qq hn (I3.fpOk (Nat.le_refl _) nC)
    · refine thnF (T.item (blkH X s3 H3 scope ce fp) rfl rfl rfl hotB i [] s5 _ H5 (fun _ _ => False) I5 (stat I5 n5) st5 go) fun r s6 hr => ?_
      obtain ⟨u, rfl, h6⟩ := hr
      refine thnF h6 fun _ s7 h7 => ?_
      obtain ⟨x, H7, I7, r7, y7, st7, n7⟩ := h7
      have I7' := I7.pinned (stat I7 n7) (T.obj _ _ st7)
      refine thnF (pg.run _ s7 _ H7 x u _ I7' r7 (step x H7 y7)) fun _ s8 h8 => ?_
      obtain ⟨σ8, H8, I8, hw8, q8⟩ := h8
      refine thnF (pt.run _ s8 σ8 H8 _ I8 q8) fun b s9 h9 => ?_
      obtain ⟨H9, I9, q9⟩ := h9
      have fin : ∀ {s' : Shared} {H' : Hp}, Inv (blkH X s3 H3 scope ce fp) ([] ++ pinsAt fp s7.heap) σ8 H' s' → Nx H' → ∃ m, m < n ∧ ∃ i H', Inv (blkH X s3 H3 scope ce fp) [] (wipe σ (own.map (·.2))) H' s' ∧ tn i s'.heap ∧ (∀ b ∈ fp, H' b = none) ∧ W i m H' := fun {s' H'} I' nx => by
        obtain ⟨m', hm, w'⟩ := hNx H' nx
        have pin' : ∀ b ∈ fp, ∀ o, s7.heap.get? b = some o → s'.heap.get? b = some o ∧ H' b = none := fun b hb o e =>
          let z := I'.pin (b, o) (List.mem_append_right _ (List.mem_append_right _ (mem_pinsAt hb e)))
          ⟨z.1, z.2.1⟩
        have hl : (wipe σ (own.map (·.2))).length = σ8.length := by rw [← hw8, wipe_length]
        refine ⟨m', hm, i + 1, H', (I'.unpinned (pins := [])).weak hl (fun j v e => by rw [← hw8] at e; exact (wipe_some e).1), T.keep _ _ _ st7 fun b hb o e => (pin' b hb o e).1, fun b hb => ?_, w'⟩
        obtain ⟨o, e, _⟩ := T.obj _ _ st7 b hb
        exact (pin' b hb o e).2
      cases b with
      | false =>
        simp only [Bool.false_eq_true, if_false] at q9 ⊢
        exact fin I9 q9
      | true =>
        simp only [if_true] at q9 ⊢
        refine thnF (pe.run _ s9 σ8 H9 _ I9 q9) fun z s10 hz => ?_
        obtain ⟨yv, H10, I10, r10, acc, hD10, hz10, nx⟩ := hz
        exact app_ok (X := blkH X s3 H3 scope ce fp) I10 hD10 hz10 r10 fun s11 I11 => fin I11 nx
  exact codeAny_compStart_list loop (T.self X.A 0 _ _ _ st4 loop)
theorem pe_lcH {elt tg iter : Expr} {ifs : List Expr} {scope : Scope} {own : List (Str × Nat)} {pos : Pos} {wi : TI} {g : TG} {tt : TT} {te : TE} (hot : L2H.HotC X) (hN : X.N.Nodup) (hi : L2H.PIH X tg iter wi) (ok : BlkOk X.N X.env.scope scope own)
    (hg : ∀ (s : Shared) (H : Hp) (C : Addr) (cl : List (Str × Addr)) (fp : List Addr), PG (blkH X s H scope (compEnvC scope cl C X.env) fp) tg g) (ht : ∀ (s : Shared) (H : Hp) (C : Addr) (cl : List (Str × Addr)) (fp : List Addr), PTs (blkH X s H scope (compEnvC scope cl C X.env) fp) ifs tt)
    (he : ∀ (s : Shared) (H : Hp) (C : Addr) (cl : List (Str × Addr)) (fp : List Addr), PE (blkH X s H scope (compEnvC scope cl C X.env) fp) elt te) (hs : ∀ x, foldedSetIterable iter X.env x = pure x := by intro _; rfl) :
    PE X (.ListComp elt [⟨tg, iter, ifs, 0⟩] scope pos) (tLc wi g tt te (own.map (·.2))) := by
  refine ⟨fun pins s σ H Q I h => ?_⟩
  rw [eval_ListComp]
  refine lc_coreH hot hN I hi ok hg ht he hs h fun D C s' m H' J q hn f => ⟨m, hn, fun h'' sb => ?_⟩
  obtain ⟨f0, f1, f2, f3, f4, f5⟩ := f
  exact ⟨.ref D, H', J.turned (t' := s'.toks) (fun b o hb e => (sb.2 b hb).trans e) f0 f1 f3 f4 f5, rfl, q⟩
theorem PIH_imp {tg e : Expr} {t t' : TI} (h : L2H.PIH X tg e t) (k : ∀ σ H R, t' σ H R → t σ H R) : L2H.PIH X tg e t' := ⟨fun pins s σ H R I q => h.run pins s σ H R I (k σ H R q)⟩
variable {G : Gx} {elt tg iter a : Expr} {ifs : List Expr} {scope : Scope} {own : List (Str × Nat)} {p pos : Pos} {mi : MI} {mr : MA} {t : Tg} {tt : MT} {te : ME}
theorem i_range1H (hg : Gl X "range") (hm : X.mg "range" = none) (ha : PA X [a] (RdA G mr)) (hs : starEach [a] X.env = [(false, eval a X.env)] := by rfl) : L2H.PIH X tg (.Call (.Name "range" p) [a] [] pos) (RdI G (iRange1 mr)) :=
  PIH_imp (L2H.pi_range1H hg hm ha hs) fun σc H R ⟨B, ρ, S, σ, src, S', hs, sl, e, k⟩ => by
    unfold iRange1 at e
    split at e
    · rename_i j S1 ea
      split at e
      · rename_i hb
        cases e
        exact ⟨B, ρ, S, σ, _, _, hs, sl, ea, fun ρ1 vs H1 fr hs1 rx => by
          obtain ⟨v, rfl, r⟩ := rvs1 rx
          exact ⟨j, by rw [rv_int r], by omega, by omega, k ρ1 H1 _ fr hs1 RJ_rng⟩⟩
      · cases e
    · cases e
theorem e_lcH (hot : L2H.HotC X) (hN : X.N.Nodup) (hi : L2H.PIH X tg iter (RdI G mi)) (ok : BlkOk X.N X.env.scope scope own)
    (hg : ∀ (s : Shared) (H : Hp) (C : Addr) (cl : List (Str × Addr)) (fp : List Addr), PG (blkH X s H scope (compEnvC scope cl C X.env) fp) tg (t.tg G.K)) (ht : ∀ (s : Shared) (H : Hp) (C : Addr) (cl : List (Str × Addr)) (fp : List Addr), PTs (blkH X s H scope (compEnvC scope cl C X.env) fp) ifs (RdT G tt))
    (he : ∀ (s : Shared) (H : Hp) (C : Addr) (cl : List (Str × Addr)) (fp : List Addr), PE (blkH X s H scope (compEnvC scope cl C X.env) fp) elt (RdE G te)) (hw : t.within (own.map (·.2)) = true) (hs : ∀ x, foldedSetIterable iter X.env x = pure x := by intro _; rfl) :
    PE X (.ListComp elt [⟨tg, iter, ifs, 0⟩] scope pos) (RdE G (mLc mi (tn1 t tt te) (own.map (·.2)))) := PE_imp (pe_lcH hot hN hi ok hg ht he hs) fun σ _ _ h => lc_fin h fun B σ' Dl => turn1 hw
end
end Rf
end

section
set_option Elab.async false
set_option linter.all false
set_option maxRecDepth 100000
set_option maxHeartbeats 4000000
/-! # Defs that are called while the exception p is handled; isinstance and fields of it; try: .. except C as n: .. -/
namespace Rf
open PySem PySem.Spec PyProof.Rows L2
/-- as FnOk, while p is handled -/
structure FnHp (P : Program) (w : World) (K : PySem.W.Frag) (mg : Str → Option Value) (base : Heap) (CX : CXT) (k : Nat) (f : Addr) (fd : FuncData) (ps : List Str) (p : Addr × Obj) (sp : Sp) : Prop where
  len : ∀ vs H Q E, sp vs H Q E → vs.length = ps.length
  run : ∀ (A : Around) (outer : List Env) (s : Shared) (H : Hp) (args : Args) (us : List Value) (vs : List V) (Q : VK) (E : XK), L2H.RoomH k A → L2H.Hot1 A p → L2H.PinOk outer H s p → Env0 P w K mg base A outer s H → BindsTo s fd args (ps.zip us) → Vals vs us → sp vs H Q E →
    codeAny (model P w) A (.call (.ref f) args) (CR CX outer P w H s Q E) s
section
variable {P : Program} {w : World} {K : PySem.W.Frag} {mg : Str → Option Value} {base : Heap} {x qual : Str} {params : Arguments} {body : List Stmt} {scope : Scope} {dvs : List V} {kws : List (Str × V)} {f : Addr} {fd : FuncData}
theorem okHp {CX : CXT} {N ps : List Str} {k : Nat} {sp : Sp} {p : Addr × Obj} (F : FunD K x qual params body scope dvs kws f fd) (S : FnScope N ps scope) (len : ∀ vs H Q E, sp vs H Q E → vs.length = ps.length)
    (hbody : ∀ (cdv : Value) (A : Around) (outer : List Env) (s : Shared) (H : Hp) (vs : List V) (Q : VK) (E : XK), L2H.Hot1 A p → L2H.RoomH k (A.deeper (envOfC qual scope s.heap.objs.size f cdv)) → sp vs H Q E →
      ∃ t, PSs (L2H.cxH CX P w K mg base N qual scope f cdv A outer s H E p) body t ∧ t { nx := fun _ H' => Q .non H', rt := Q } (L2.start N vs) H) : FnHp P w K mg base CX (k + 1) f fd ps p sp := by
  obtain ⟨oc, od, dV, kV, doc, pm, an, cdv, ct, osl, rfl, lk, hcd, _, _⟩ := F.ex
  refine ⟨len, fun A outer s H args us vs Q E hr hot hpin e0 hb r hsp => ?_⟩
  have KX : K.In s.heap := e0.mod.kin.keeps fun b o e => (e0.bs b o e).1
  have lim : s.heap.NoLimit := e0.mod.nolimit.keeps fun b o e => (e0.bs b o e).1
  have hk : ∀ y ∈ ps.zip us, scope.names.lookup y.1 = some .local ∨ (scope.names.lookup y.1 = some .cell ∧ ((cellsFrom (s.heap.objs.size + 1) scope.names []).lookup y.1).isSome = true) := fun y hy =>
    (S.par y.1 (List.of_mem_zip hy).1).elim .inl fun q => .inr ⟨q, PySem.W.cellsFrom_some _ _ _ (.inl q)⟩
  refine codeAny_call_function hr.depth (KX _ _ lk) rfl S.co S.gen rfl (PySem.W.codeRec_of KX hcd) (hb _ _ _ _ (wpAny_newFunctionEnv_cells S.kind hk fun env he s1 z => ?_))
  subst he
  refine ⟨lim.keeps z.toInCall.keep, codeAny_func ?_⟩
  obtain ⟨t, ht, hq⟩ := hbody cdv A outer s H vs Q E hot (hr.deeper _) hsp
  refine wpAny_mono (ht.run [] s1 (L2.start N vs) H _ (L2H.inv_startH S hpin e0 (len _ _ _ _ hsp) r z) hq) (fun fl s' hs => ?_) fun e s' hs => hs
  have fin : ∀ {σ' : L2.St} {H' : Hp} {v : V} {u : Value}, Inv (L2H.cxH CX P w K mg base N qual scope f cdv A outer s H E p) [] σ' H' s' → RelV v u → Q v H' → CE outer P w H s Q u s' := fun {σ' H' v u} J rv q => ⟨v, H', J.os, J.bare, J.base, J.hok, rv, q⟩
  match fl, hs with
  | .ret u, ⟨v, σ', H', J, rv, q⟩ => exact fin J rv q
  | .next, ⟨σ', H', J, q⟩ => exact fin (v := V.non) (u := Value.none) J rfl q
  | .brk, ⟨_, _, _, q⟩ => exact False.elim q
  | .cont, ⟨_, _, _, q⟩ => exact False.elim q
end
section
variable {X : Cx} {k : Nat} {f : Addr} {fd : FuncData} {ps : List Str} {sp : Sp} {x : Str} {q pos : Pos} {e : Expr} {es : List Expr} {t : TA} {p : Addr × Obj}
theorem pe_callHp (F : FnHp X.prog X.w X.K X.mg X.base CX0 k f fd ps p sp) (hr : L2H.RoomH k X.A) (hot : L2H.Hot1 X.A p) (hp : p ∈ X.pn) (hg : Gl X x) (hm : X.mg x = some (.ref f)) (hk : PySem.W.keepIn X.K (.ref f) = true) (hb : Binds X.K fd ps [])
    (ha : PA X (e :: es) t) (hdb : (x == ("__debug__" : Str)) = false := by decide) (he : starEach (e :: es) X.env = (false, eval e X.env) :: starEach es X.env := by rfl) (hpl : (backTo pos (starEach es X.env)).any (·.1) = false := by rfl) :
    PE X (.Call (.Name x q) (e :: es) [] pos) (fun σ H Q => t σ H fun vs H1 => sp vs H1 Q fun _ _ _ => False) := by
  refine ⟨fun pins s σ H Q I h => ?_⟩
  refine wpAny_Call_Name_kw (ld_glob I hg hm ?_ hdb)
  refine PySem.W.callWith_K (h₀ := X.base) I.ok.mod.kin hk (thn (ha.run pos pins s σ H _ I h) fun us s1 hh => ?_) he hpl
  obtain ⟨vs, H1, J, rv, hsp⟩ := hh
  refine ⟨J.kIn, ?_⟩
  have hl : us.length = ps.length := by rw [← rv.length]; exact F.len _ _ _ _ hsp
  have b := hb s1 us J.kIn (by rw [List.append_nil]; exact hl)
  rw [List.append_nil] at b
  obtain ⟨p1, p2, p3, p4, p5⟩ := J.pin p (List.mem_append_left _ hp)
  have hpin : L2H.PinOk X.stack H1 s1 p := ⟨p1, p2, fun hm => (List.mem_cons.mp (J.stkSub p.1 hm)).elim p3 p4, p5⟩
  refine wpAny_call (codeAny_mono (F.run X.A X.stack s1 H1 ⟨us, []⟩ us vs Q _ hr hot hpin J.env0 b rv hsp) fun r s' hq => ?_)
  match r, hq with
  | .error er, hq => exact False.elim hq
  | .ok (.ret u), hq => exact J.after hq
  | .ok .next, hq => exact False.elim hq
  | .ok .brk, hq => exact False.elim hq
  | .ok .cont, hq => exact False.elim hq
end
/-- a def, called while p is handled, as it stands -/
structure DefHp (P : Program) (w : World) (K : PySem.W.Frag) (mg : Str → Option Value) (base : Heap) (x : Str) (k : Nat) (p : Addr × Obj) (sp : Sp) : Prop where
  ex : ∃ (f : Addr) (fd : FuncData) (ps : List Str), FnHp P w K mg base CX0 k f fd ps p sp ∧ mg x = some (.ref f) ∧ PySem.W.keepIn K (.ref f) = true ∧ Binds K fd ps []
theorem e_callPH {X : Cx} {G : Gx} {k : Nat} {x : Str} {q pos : Pos} {e : Expr} {es : List Expr} {mr : MA} {mf : List P → Option P} {p : Addr × Obj} (C : DefHp X.prog X.w X.K X.mg X.base x k p (SpP G mf)) (hr : L2H.RoomH k X.A) (hot : L2H.Hot1 X.A p) (hp : p ∈ X.pn) (hg : Gl X x) (ha : PA X (e :: es) (RdA G mr))
    (hdb : (x == ("__debug__" : Str)) = false := by decide) (he : starEach (e :: es) X.env = (false, eval e X.env) :: starEach es X.env := by rfl) (hpl : (backTo pos (starEach es X.env)).any (·.1) = false := by rfl) :
    PE X (.Call (.Name x q) (e :: es) [] pos) (RdE G (mCall (callP mf) mr)) := by
  obtain ⟨f, fd, ps, F, hm, hk, hb⟩ := C.ex
  exact PE_imp (pe_callHp F hr hot hp hg hm hk hb ha hdb he hpl) fun σ H Q h => RdA_imp (RdA_call h) fun vs H1 q => callP_ok q

/-! ### the exception as data: .fn 100 -/
def okF' : P → Bool
  | .fn i => i != 100
  | _ => true
mutual
def okF : P → Bool
  | .fn i => i != 100
  | .tup xs => okFs xs
  | .lst xs => okFs xs
  | _ => true
def okFs : List P → Bool
  | [] => true
  | x :: r => okF x && okFs r
end
def Gx.exc (G : Gx) (a : Addr) (d : Option Addr) (l : Option (List (Str × V))) : Gx where
  K := G.K
  fa := fun i => if i = 100 then a else G.fa i
  ca := G.ca
  inv := fun H => G.inv H ∧ XOk H d l
  st := fun {H H'} h kp => ⟨G.st h.1 kp, by
    cases l with
    | none => exact h.2
    | some fs =>
      obtain ⟨dd, e1, e2⟩ := h.2
      exact ⟨dd, e1, kp dd _ e2 id⟩⟩
section
variable {G : Gx} {a : Addr} {d : Option Addr} {l : Option (List (Str × V))} {B ρ : List Addr} {H : Hp}
mutual
theorem RP.toExc : ∀ {x : P} {v : V}, okF x = true → RP G B ρ H x v → RP (G.exc a d l) B ρ H x v
  | _, _, _, .non => .non
  | _, _, _, .bl b => .bl b
  | _, _, _, .int i => .int i
  | _, _, _, .str x => .str x
  | .fn i, _, h, .fn _ => by
    have hi : i ≠ 100 := by simpa [okF] using h
    have e : (G.exc a d l).fa i = G.fa i := if_neg hi
    have q : RP (G.exc a d l) B ρ H (.fn i) (.ref ((G.exc a d l).fa i)) := .fn i
    rw [e] at q
    exact q
  | _, _, h, .tup s r => .tup s (RPs.toExc (by simpa [okF] using h) r)
  | _, _, h, .lst s b n r => .lst s b n (RPs.toExc (by simpa [okF] using h) r)
  | _, _, _, .scr s => .scr s
  | _, _, _, .ty n => .ty n
  | _, _, _, .tk s => .tk s
theorem RPs.toExc : ∀ {x : List P} {v : List V}, okFs x = true → RPs G B ρ H x v → RPs (G.exc a d l) B ρ H x v
  | _, _, _, .nil => .nil
  | _, _, h, .cons r q => by
    simp only [okFs, Bool.and_eq_true] at h
    exact .cons (RP.toExc h.1 r) (RPs.toExc h.2 q)
end
mutual
theorem RP.ofExc : ∀ {x : P} {v : V}, okF x = true → RP (G.exc a d l) B ρ H x v → RP G B ρ H x v
  | _, _, _, .non => .non
  | _, _, _, .bl b => .bl b
  | _, _, _, .int i => .int i
  | _, _, _, .str x => .str x
  | .fn i, _, h, .fn _ => by
    have hi : i ≠ 100 := by simpa [okF] using h
    have e : (G.exc a d l).fa i = G.fa i := if_neg hi
    have q : RP G B ρ H (.fn i) (.ref (G.fa i)) := .fn i
    rw [← e] at q
    exact q
  | _, _, h, .tup s r => .tup s (RPs.ofExc (by simpa [okF] using h) r)
  | _, _, h, .lst s b n r => .lst s b n (RPs.ofExc (by simpa [okF] using h) r)
  | _, _, _, .scr s => .scr s
  | _, _, _, .ty n => .ty n
  | _, _, _, .tk s => .tk s
theorem RPs.ofExc : ∀ {x : List P} {v : List V}, okFs x = true → RPs (G.exc a d l) B ρ H x v → RPs G B ρ H x v
  | _, _, _, .nil => .nil
  | _, _, h, .cons r q => by
    simp only [okFs, Bool.and_eq_true] at h
    exact .cons (RP.ofExc h.1 r) (RPs.ofExc h.2 q)
end
theorem GlobOk.exc {mg : Str → Option Value} {x : Str} {p : P} (h : GlobOk G mg x p) (k : okF p = true) : GlobOk (G.exc a d l) mg x p := by
  obtain ⟨u, v, h1, h2, h3⟩ := h.ex
  exact ⟨u, v, h1, h2, fun B ρ H => (h3 B ρ H).toExc k⟩
end
/-- what isinstance asks of an own exception class -/
structure ExE (K : PySem.W.Frag) (C : Addr) : Prop where
  cl : (PySem.W.clsIn K C).isSome = true
  ga : PySem.W.findIn K (.ref C) "__getattribute__" = some (some (.builtin "BaseException.__getattribute__"))
  gt : PySem.W.findIn K (.ref C) "__getattr__" = some none
  su : PySem.W.subIn K (.ref C) (.type "BaseException") = some true
  ca : PySem.W.findIn K (.ref C) "__class__" = some (some (.builtin "object.__class__"))
  ge : PySem.W.specialIn K (.builtin "object.__class__") "__get__" = some (some (.builtin "getset_descriptor.__get__"))
  tk : PySem.W.takesIn K (.builtin "object.__class__") = some true
  mr : PySem.W.mroIn K C (.type "object") = some true
def exeB (K : PySem.W.Frag) (C : Addr) : Bool := (PySem.W.clsIn K C).isSome && (decide (PySem.W.findIn K (.ref C) "__getattribute__" = some (some (.builtin "BaseException.__getattribute__"))) && (decide (PySem.W.findIn K (.ref C) "__getattr__" = some none) &&
  (decide (PySem.W.subIn K (.ref C) (.type "BaseException") = some true) && (decide (PySem.W.findIn K (.ref C) "__class__" = some (some (.builtin "object.__class__"))) && (decide (PySem.W.specialIn K (.builtin "object.__class__") "__get__" = some (some (.builtin "getset_descriptor.__get__"))) &&
  (decide (PySem.W.takesIn K (.builtin "object.__class__") = some true) && decide (PySem.W.mroIn K C (.type "object") = some true)))))))
theorem exeB_ok {K : PySem.W.Frag} {C : Addr} (h : exeB K C = true) : ExE K C := by
  unfold exeB at h
  simp only [Bool.and_eq_true, decide_eq_true_eq] at h
  obtain ⟨h1, h2, h3, h4, h5, h6, h7, h8⟩ := h
  exact ⟨h1, h2, h3, h4, h5, h6, h7, h8⟩
def isEL (tb : Nat → Option Bool) (tt : String → Option Bool) : FL := fun xs S => match xs with
  | [.p (.fn k), .p (.fn j)] => if k = 100 ∧ j ≠ 100 then (match tb j with
    | some b => some (.p (.bl b), S)
    | none => none) else none
  | [.p (.fn k), .p (.ty T)] => if k = 100 then (match tt T with
    | some b => some (.p (.bl b), S)
    | none => none) else none
  | _ => none
def xfL (l : Option (List (Str × V))) (f : Str) : D → Sto → Option (D × Sto) := fun x S => match x with
  | .p (.fn k) => if k = 100 then (match l with
    | some fs => (match fs.lookup f with
      | some (.int i) => some (.p (.int i), S)
      | some (.str w) => some (.p (.str w), S)
      | _ => none)
    | none => none) else none
  | _ => none
section
variable {X : Cx} {G : Gx} {a D C : Addr} {d : Option Addr} {l : Option (List (Str × V))} {oe : Obj} {cls : Value}
theorem c_isE {tb : Nat → Option Bool} {tt : String → Option Bool} (T : ExE X.K D) (hz : Zc (.ref D) d oe) (hf : ∃ vs, oe.data = .fields vs) (hp : (a, oe) ∈ X.pn) (hb : ∀ j b, tb j = some b → PySem.W.kitOne X.K (.ref D) (.ref (G.fa j)) = some b)
    (ht : ∀ T b, tt T = some b → PySem.W.kitOne X.K (.ref D) (.type T) = some b) : CallR X (.builtin "isinstance") (OL (G.exc a d l) (isEL tb tt)) := by
  intro pins s σ H xs us Q I r h
  obtain ⟨B, ρ, S, ds, z, S', hs, rx, e, q⟩ := h
  obtain ⟨hget, _⟩ := I.pin (a, oe) (List.mem_append_left _ hp)
  obtain ⟨vs, hd⟩ := hf
  have J : ∃ od, PySem.W.InstAt s.heap a oe D od := by
    have hx : XOk H d l := hs.inv.2
    cases l with
    | none =>
      have hx : d = none := hx
      refine ⟨none, hget, hz.1, by unfold PySem.W.notCls; rw [hd] <;> rfl, ?_⟩
      rw [hz.2, hx]
      trivial
    | some fs =>
      obtain ⟨dd, e1, e2⟩ := hx
      obtain ⟨mA, hns, hr⟩ := (show ObjOk X.prog X.w H s.heap dd (.xd fs) from I.hok dd _ e2)
      obtain ⟨od, ho, hl⟩ := lookIn_ns hns
      refine ⟨some od, hget, hz.1, by unfold PySem.W.notCls; rw [hd] <;> rfl, ?_⟩
      rw [hz.2, e1]
      exact ho
  obtain ⟨od, J⟩ := J
  have kit := fun (c : Value) (b : Bool) (hc : PySem.W.kitOne X.K (.ref D) c = some b) (R : Value → Shared → Prop) (hR : ∀ tk, R (.bool b) { s with toks := tk }) => PySem.W.kia_one (prog := X.prog) (w := X.w) (A := X.A) (E := X.xe) (Q := R) (PySem.W.kitx_exc T.cl T.ga T.gt T.su T.ca T.ge T.tk T.mr) I.kIn J hc (fun z => nomatch z) hR
  have first : ∀ {v : V}, RV (G.exc a d l) B ρ H (.p (.fn 100)) v → v = .ref a := fun {v} rv => by
    cases rv with
    | p rv => cases rv; rfl
  unfold isEL at e
  split at e
  · rename_i k j
    split at e
    · rename_i hk
      obtain ⟨rfl, hj⟩ := hk
      split at e
      · rename_i b hb'
        cases e
        obtain ⟨v, u, rfl, r1, r2⟩ := rvs2' rx
        have e1 := first r1
        subst e1
        cases r2 with
        | p r2 =>
          cases r2
          cases r with
          | cons ra rr =>
            cases rr with
            | cons rb rr =>
              cases rr
              cases ra
              cases rb
              have ej : (G.exc a d l).fa j = G.fa j := if_neg hj
              rw [ej]
              exact kit _ b (hb j b hb') _ fun tk => ⟨.bl b, H, I.kept (t' := tk) fun _ _ z => z, rfl, q.p hs (.bl _)⟩
      · cases e
    · cases e
  · rename_i k T'
    split at e
    · rename_i hk
      subst hk
      split at e
      · rename_i b hb'
        cases e
        obtain ⟨v, u, rfl, r1, r2⟩ := rvs2' rx
        have e1 := first r1
        subst e1
        have e2 := rv_ty r2
        subst e2
        cases r with
        | cons ra rr =>
          cases rr with
          | cons rb rr =>
            cases rr
            cases ra
            cases rb
            exact kit _ b (ht T' b hb') _ fun tk => ⟨.bl b, H, I.kept (t' := tk) fun _ _ z => z, rfl, q.p hs (.bl _)⟩
      · cases e
    · cases e
  · cases e
theorem e_xf {pn : List (Addr × Obj)} {e : Expr} {me : ME} {pos : Pos} {f : Str} (T : XfC X.K C) (hno : PySem.W.findIn X.K (.ref C) f = some none) (hz : Zc cls d oe) (hf : ∃ vs, oe.data = .fields vs) (hc : l.isSome = true → cls = .ref C)
    (he : PE (X.suite a ((a, oe) :: pn)) e (RdE (G.exc a d l) me)) (hb : attributeBase e f X.env (eval e X.env) = eval e X.env := by rfl) : PE (X.suite a ((a, oe) :: pn)) (.Attribute e f pos) (RdE (G.exc a d l) (mUn (xfL l f) me)) :=
  PE_imp (pe_xf T hno hz hf he hb) fun σc H Q ⟨B, ρ, S, σ, v, S', hs, sl, e, k⟩ => by
    unfold mUn at e
    cases ea : me σ S with
    | none => rw [ea] at e; cases e
    | some p =>
      obtain ⟨x, S1⟩ := p
      simp only [ea] at e
      refine ⟨B, ρ, S, σ, x, S1, hs, sl, ea, fun ρ1 xc H1 fr hs1 rx => ?_⟩
      unfold xfL at e
      split at e
      · rename_i j
        split at e
        · rename_i hj
          subst hj
          have ex : xc = .ref a := by
            cases rx with
            | p rv => cases rv; rfl
          cases l with
          | none => cases e
          | some fs =>
            obtain ⟨dd, e1, e2⟩ := (show XOk H1 d (some fs) from hs1.inv.2)
            dsimp only at e
            split at e
            · rename_i i hl
              cases e
              exact ⟨ex, hc rfl, dd, fs, _, e1, e2, hl, k ρ1 _ H1 fr hs1 (.p (.int _))⟩
            · rename_i z hl
              cases e
              exact ⟨ex, hc rfl, dd, fs, _, e1, e2, hl, k ρ1 _ H1 fr hs1 (.p (.str _))⟩
            · cases e
        · cases e
      · cases e
end

theorem e_xf2 {X : Cx} {G : Gx} {a C : Addr} {d : Option Addr} {l : Option (List (Str × V))} {oe : Obj} {cls : Value} {b : Bool} {pn : List (Addr × Obj)} {e : Expr} {me : ME} {pos : Pos} {f : Str} (T : XfC X.K C) (hno : PySem.W.findIn X.K (.ref C) f = some none) (hz : Zc cls d oe) (hf : ∃ vs, oe.data = .fields vs) (hc : b = true → cls = .ref C)
    (he : PE (X.suite a ((a, oe) :: pn)) e (RdE (G.exc a d l) me)) (hb : attributeBase e f X.env (eval e X.env) = eval e X.env := by rfl) : PE (X.suite a ((a, oe) :: pn)) (.Attribute e f pos) (RdE (G.exc a d l) (mUn (xfL (if b then l else none) f) me)) := by
  cases b with
  | true => exact e_xf T hno hz hf (fun _ => hc rfl) he hb
  | false =>
    refine PE_imp (e_never (G := G)) fun σc H Q ⟨B, ρ, S, σ, v, S', hs, sl, e, k⟩ => ?_
    unfold mUn at e
    split at e
    · cases e
    · simp only [Bool.false_eq_true, if_false] at e
      unfold xfL at e
      split at e
      · split at e <;> cases e
      · cases e

/-! ### try -/
def cleanS (σ : Slots) : Slots := σ.map fun o => match o with
  | some (.p x) => if okF x then some (.p x) else none
  | _ => none
def sTryX (mx : MX) (ok : Nat → Bool) (mh : Xi → MS) (i : Nat) : MS := fun σ S => match mx σ S with
  | some (x, σ1, []) => if ok x.1 = true then (match mh x ((cleanS σ1).set i (some (.p (.fn 100)))) [] with
    | some (.rt (.p p), _, []) => if okF p = true then some (.rt (.p p), [], []) else none
    | _ => none) else none
  | _ => none
theorem Sl.clean {G : Gx} {a : Addr} {d : Option Addr} {l : Option (List (Str × V))} {B ρ : List Addr} {H : Hp} {σ : Slots} {σc : L2.St} (sl : Sl G B ρ H σ σc) : Sl (G.exc a d l) B ρ H (cleanS σ) σc := by
  refine ⟨by unfold cleanS; rw [List.length_map]; exact sl.len, fun i y e => ?_⟩
  unfold cleanS at e
  rw [List.getElem?_map] at e
  cases q : σ[i]? with
  | none => rw [q] at e; cases e
  | some o =>
    rw [q] at e
    have e := Option.some.inj e
    dsimp only at e
    split at e
    · rename_i x hx
      split at e
      · rename_i hk
        cases e
        obtain ⟨v, e1, r⟩ := sl.at_ i _ q
        cases r with
        | p r => exact ⟨v, e1, .p (r.toExc hk)⟩
      · cases e
    · cases e
theorem takes0N {X : Cx} : L2N.Takes X (fun _ _ _ _ => False) := fun _ _ x => by
  obtain ⟨_, _, _, _, _, _, _, _, _, _, _, _, _, _, _, _, z⟩ := x
  exact z.elim
theorem PSs_ex {X : Cx} {sts : List Stmt} {ι : Type} {c : ι → Prop} {t : ι → TS} (h : ∀ x, c x → PSs X sts (t x)) : PSs X sts (fun D σ H => ∃ x, c x ∧ t x D σ H) := ⟨fun pins s σ H D I ⟨x, hc, q⟩ => (h x hc).run pins s σ H D I q⟩
section
variable {X : Cx} {G : Gx} {nx n : Str} {c : Value} {i : Nat} {body suite : List Stmt} {b₀ : Stmt} {np pos pos' : Pos} {mx : MX} {mh : Xi → MS} {ok : Nat → Bool}
theorem s_tryX (hs : X.stack = X.env :: X.outer) (hf : X.env.frame = some X.env.locals) (hN : X.N.Nodup) (hi : X.N[i]? = some n) (hln : X.env.kindOf n = some .local) (hc : Names X nx c) (hex : ∀ j, ok j = true → PySem.W.exmOne X.K (.ref (G.ca j)) c = some true)
    (hb : ∀ (W : WX) (pn : List (Addr × Obj)) (xe : Value → Shared → Prop), L2N.Takes (X.tr pn xe) W → PSs (X.tr pn xe) body (TX G W mx))
    (hsu : ∀ (x : Xi) (a : Addr) (oe : Obj) (d : Option Addr) (pn : List (Addr × Obj)), ok x.1 = true → L2N.Zn (.ref (G.ca x.1)) d oe → (∃ vs, oe.data = .fields vs) → PSs (X.suite a ((a, oe) :: pn)) (b₀ :: suite) (RdS (G.exc a d x.2) (mh x))) :
    PS X (.Try body [.ExceptHandler (some (.Name nx np)) (some n) (b₀ :: suite) pos'] [] [] pos) (RdS G (sTryX mx ok mh i)) := by
  refine PS_imp (L2N.ps_try_as (tb := fun W => TX G W mx) (ts := fun a cls d D σc H => ∃ x : Xi, (ok x.1 = true ∧ cls = .ref (G.ca x.1)) ∧ RdS (G.exc a d x.2) (mh x) D σc H) (Wout := fun _ _ _ _ => False) hs hf hN hi hln hc takes0N (fun W pn xe tk _ => hb W pn xe tk) fun a oe cls d pn hz hd => ?_) fun D σc H h => ?_
  · refine PSs_ex (c := fun x : Xi => ok x.1 = true ∧ cls = .ref (G.ca x.1)) (t := fun x => RdS (G.exc a d x.2) (mh x)) fun x hx => ?_
    obtain ⟨h1, h2⟩ := hx
    subst h2
    exact hsu x a oe d pn h1 hz hd
  · obtain ⟨B, ρ, S, σ, f, σ', S', hs, sl, e, k⟩ := h
    unfold sTryX at e
    split at e
    · rename_i x σ1 ea
      split at e
      · rename_i hok
        split at e
        · rename_i p σ2 eh
          split at e
          · rename_i hp
            cases e
            refine ⟨B, ρ, S, σ, x, σ1, [], hs, sl, ea, fun ρ' σc' H' d fr hs' sl' xo => ⟨true, hex _ hok, fun _ a ha => ?_, fun z => by cases z⟩⟩
            have e0 : ρ' = [] := List.eq_nil_of_length_eq_zero hs'.len
            subst e0
            have hsG : Hs (G.exc a d x.2) B [] [] H' := ⟨rfl, List.nodup_nil, hs'.bar, fun b h => by simp at h, fun j b o h => by simp at h, hs'.inv, xo⟩
            have r0 : RV (G.exc a d x.2) B [] H' (.p (.fn 100)) (.ref a) := by
              have q : RP (G.exc a d x.2) B [] H' (.fn 100) (.ref ((G.exc a d x.2).fa 100)) := .fn 100
              exact .p q
            refine ⟨x, ⟨hok, rfl⟩, B, [], [], _, _, σ2, [], hsG, (sl'.clean (a := a) (d := d) (l := x.2)).set i r0, eh, fun ρ2 vc H2 fr2 hs2 rv2 => ?_⟩
            have e2 : ρ2 = [] := List.eq_nil_of_length_eq_zero hs2.len
            subst e2
            refine k [] vc H2 (fr.trans fr2) ⟨rfl, List.nodup_nil, hs2.bar, fun b h => by simp at h, fun j b o h => by simp at h, hs2.inv.1⟩ ?_
            cases rv2 with
            | p r => exact .p (r.ofExc hp)
          · cases e
        · cases e
      · cases e
    · cases e
end
theorem roomH_mk {k : Nat} {A : Around} (r : Room k A) (h : Option Value) : L2H.RoomH k (A.mark h) := ⟨r.dp, r.un⟩
theorem roomH_u64 {k : Nat} {A : Around} (r : L2H.RoomH k A) : A.units + 64 < cLine := by
  have := r.un
  omega
end Rf
end

section
set_option Elab.async false
set_option linter.all false
set_option maxRecDepth 100000
/-! # The end of a law -/
namespace Rf
open PySem L2
/-- a law's promise: of every list of at most 63 ints it says True -/
def spLaw (K : PySem.W.Frag) : Sp := fun vs H Q _ => ∃ (a : Addr) (ns : List Int), vs = [.ref a] ∧ ns.length ≤ 63 ∧ Sc K H a ns ∧ ∀ H', Q (.bl true) H'
theorem sc_of {K : PySem.W.Frag} {H : Hp} {a : Addr} {ns : List Int} (o : Only H) (h : SqL K H a (ns.map V.int)) : Sc K H a ns := by
  rcases h with (h | ⟨o', h⟩) | h
  · rcases o a with z | ⟨_, _, z⟩ <;> rw [h] at z <;> cases z
  · exact .inl ⟨o', h⟩
  · exact .inr h
theorem FnOk_imp {P : Program} {w : World} {K : PySem.W.Frag} {mg : Str → Option Value} {base : Heap} {CX : CXT} {k : Nat} {f : Addr} {fd : FuncData} {ps : List Str} {sp sp' : Sp} (F : FnOk P w K mg base CX k f fd ps sp') (h : ∀ vs H Q E, sp vs H Q E → sp' vs H Q E) : FnOk P w K mg base CX k f fd ps sp :=
  ⟨fun vs H Q E q => F.len _ _ _ _ (h _ _ _ _ q), fun A outer s H args us vs Q E a b c d q => F.run A outer s H args us vs Q E a b c d (h _ _ _ _ q)⟩
theorem spLaw_ok {K : PySem.W.Frag} {fns cls : List Str} {f : List P → Option P} (hf : ∀ ns : List Int, ns.length ≤ 63 → f [.scr ns] = some (.bl true)) : ∀ vs H Q E, spLaw K vs H Q E → SpP (gx fns cls K) f vs H Q E := by
  rintro vs H Q E ⟨a, ns, rfl, hl, hs, k⟩
  refine ⟨[], [.scr ns], .bl true, .cons (.scr hs) .nil, ⟨fun b h => by simp at h, trivial⟩, hf ns hl, fun vc H' _ r => ?_⟩
  cases r
  exact k H'
end Rf
end

section
set_option Elab.async false
set_option linter.all false
set_option maxRecDepth 100000
set_option maxHeartbeats 0
set_option Elab.async false
namespace Rf
namespace K79
open PySem L2
def top (i : Nat) : Stmt := PySem.Challenge.pw_provedbest_k79_errors_stand_beside_one_a.main.body.getD i (.Pass ⟨0, 0, 0, 0⟩)
def clsBody : Stmt → List Stmt
  | .ClassDef (body := b) .. => b
  | _ => []
def cls (i j : Nat) : Stmt := (clsBody (top i)).getD j (.Pass ⟨0, 0, 0, 0⟩)
def fns : List Str := ["read_set", "read_numbers", "read_line", "read_goal", "BadText", "BadModel", "NotATask", "NotAProof"]
def cls_ : List Str := ["Reader", "BadText", "BadModel", "NotATask", "NotAProof"]
def gs : List (Str × P) := [("ZERO", .tup [.int 0, .int 1]), ("ONE", .tup [.int 1, .int 1]), ("DIGITS_fractions", .str "0123456789"), ("LETTERS", .str "abcdefghijklmnopqrstuvwxyz"), ("DIGITS_modelwords", .str "0123456789"), ("MARKS", .tup [.str "<=", .str ">=", .str "..", .str "=", .str "+", .str "-", .str "*", .str "/", .str "(", .str ")", .str "[", .str "]", .str ",", .str ":", .str "<"]), ("FIRST", .str "abcdefghijklmnopqrstuvwxyz"), ("SIGNS", .str "abcdefghijklmnopqrstuvwxyz0123456789_"), ("SENSES_prooftexts", .tup [.tup [.int (-1), .str "<="], .tup [.int 0, .str "="], .tup [.int 1, .str ">="]]), ("MOST_tasks", .int 60), ("read_set", .fn 0), ("read_numbers", .fn 1), ("read_line", .fn 2), ("read_goal", .fn 3), ("BadText", .fn 4), ("BadModel", .fn 5), ("NotATask", .fn 6), ("NotAProof", .fn 7)]
def fa : List He.Fa := [.exc "BadText", .glo "BadText", .exc "NotATask", .glo "NotATask", .exc "NotAProof", .glo "NotAProof", .free "bool", .free "isinstance", .free "int", .glo "is_int", .free "abs", .glo "common", .free "len", .free "tuple", .glo "is_fraction", .glo "is_whole", .free "str", .glo "write_fraction", .free "all", .glo "read_digits", .glo "read_fraction", .glo "sign_at", .glo "signs_of", .free "range", .glo "lines_of", .mkr "Reader", .glo "Reader", .meth "Reader" "next_sign", .cls "Reader", .meth "Reader" "is_done", .meth "Reader" "has", .glo "is_sum", .glo "is_row", .glo "is_name", .glo "has_bounds", .glo "is_task", .glo "is_parts", .glo "is_reason", .glo "is_proof", .glo "read_sum_prooftexts", .glo "read_row", .glo "read_place", .glo "read_parts", .glo "read_reason", .glo "_law_cell", .free "list", .glo "_law_kind", .glo "BestError", .glo "BadModel", .meth "Reader" "refuse", .glo "statement", .glo "parse", .glo "read_task", .glo "read_proof", .free "ValueError", .glo "_law_m_classes", .glo "_law_m_raised_by", .free "dict", .glo "_law_equal", .glo "law", .noat "Reader" "number", .noat "Reader" "_signs", .noat "Reader" "_place"]
def fn : List He.DefD := [
  ⟨("is_int", none), "is_int", "is_int", defArgs (top 10), defBody (top 10), defScope (top 10), [], []⟩,
  ⟨("common", none), "common", "common", defArgs (top 11), defBody (top 11), defScope (top 11), [], []⟩,
  ⟨("is_fraction", none), "is_fraction", "is_fraction", defArgs (top 12), defBody (top 12), defScope (top 12), [], []⟩,
  ⟨("is_whole", none), "is_whole", "is_whole", defArgs (top 15), defBody (top 15), defScope (top 15), [], []⟩,
  ⟨("write_fraction", none), "write_fraction", "write_fraction", defArgs (top 16), defBody (top 16), defScope (top 16), [], []⟩,
  ⟨("read_digits", none), "read_digits", "read_digits", defArgs (top 17), defBody (top 17), defScope (top 17), [], []⟩,
  ⟨("read_fraction", none), "read_fraction", "read_fraction", defArgs (top 18), defBody (top 18), defScope (top 18), [], []⟩,
  ⟨("sign_at", none), "sign_at", "sign_at", defArgs (top 26), defBody (top 26), defScope (top 26), [], []⟩,
  ⟨("signs_of", none), "signs_of", "signs_of", defArgs (top 25), defBody (top 25), defScope (top 25), [], []⟩,
  ⟨("lines_of", none), "lines_of", "lines_of", defArgs (top 24), defBody (top 24), defScope (top 24), [], []⟩,
  ⟨("Reader", some "__init__"), "__init__", "Reader.__init__", defArgs (cls 27 0), defBody (cls 27 0), defScope (cls 27 0), [], []⟩,
  ⟨("Reader", some "next_sign"), "next_sign", "Reader.next_sign", defArgs (cls 27 1), defBody (cls 27 1), defScope (cls 27 1), [], []⟩,
  ⟨("Reader", some "is_done"), "is_done", "Reader.is_done", defArgs (cls 27 2), defBody (cls 27 2), defScope (cls 27 2), [], []⟩,
  ⟨("Reader", some "has"), "has", "Reader.has", defArgs (cls 27 4), defBody (cls 27 4), defScope (cls 27 4), [], []⟩,
  ⟨("is_sum", none), "is_sum", "is_sum", defArgs (top 46), defBody (top 46), defScope (top 46), [], []⟩,
  ⟨("is_row", none), "is_row", "is_row", defArgs (top 47), defBody (top 47), defScope (top 47), [], []⟩,
  ⟨("is_name", none), "is_name", "is_name", defArgs (top 52), defBody (top 52), defScope (top 52), [], []⟩,
  ⟨("has_bounds", none), "has_bounds", "has_bounds", defArgs (top 53), defBody (top 53), defScope (top 53), [], []⟩,
  ⟨("is_task", none), "is_task", "is_task", defArgs (top 54), defBody (top 54), defScope (top 54), [], []⟩,
  ⟨("is_parts", none), "is_parts", "is_parts", defArgs (top 56), defBody (top 56), defScope (top 56), [], []⟩,
  ⟨("is_reason", none), "is_reason", "is_reason", defArgs (top 57), defBody (top 57), defScope (top 57), [], []⟩,
  ⟨("is_proof", none), "is_proof", "is_proof", defArgs (top 59), defBody (top 59), defScope (top 59), [], []⟩,
  ⟨("read_sum_prooftexts", none), "read_sum", "read_sum", defArgs (top 63), defBody (top 63), defScope (top 63), [], []⟩,
  ⟨("read_row", none), "read_row", "read_row", defArgs (top 66), defBody (top 66), defScope (top 66), [], []⟩,
  ⟨("read_place", none), "read_place", "read_place", defArgs (top 69), defBody (top 69), defScope (top 69), [], []⟩,
  ⟨("read_parts", none), "read_parts", "read_parts", defArgs (top 68), defBody (top 68), defScope (top 68), [], []⟩,
  ⟨("read_reason", none), "read_reason", "read_reason", defArgs (top 73), defBody (top 73), defScope (top 73), [], []⟩,
  ⟨("_law_cell", none), "_law_cell", "_law_cell", defArgs (top 80), defBody (top 80), defScope (top 80), [], []⟩,
  ⟨("_law_kind", none), "_law_kind", "_law_kind", defArgs (top 81), defBody (top 81), defScope (top 81), [], []⟩,
  ⟨("BadModel", some "__init__"), "__init__", "BadModel.__init__", defArgs (cls 3 0), defBody (cls 3 0), defScope (cls 3 0), [], []⟩,
  ⟨("read_digits", none), "read_digits", "read_digits", defArgs (top 17), defBody (top 17), defScope (top 17), [], []⟩,
  ⟨("Reader", some "refuse"), "refuse", "Reader.refuse", defArgs (cls 27 3), defBody (cls 27 3), defScope (cls 27 3), [], []⟩,
  ⟨("statement", none), "statement", "statement", defArgs (top 32), defBody (top 32), defScope (top 32), [], []⟩,
  ⟨("parse", none), "parse", "parse", defArgs (top 31), defBody (top 31), defScope (top 31), [], []⟩,
  ⟨("read_task", none), "read_task", "read_task", defArgs (top 78), defBody (top 78), defScope (top 78), [], []⟩,
  ⟨("read_proof", none), "read_proof", "read_proof", defArgs (top 76), defBody (top 76), defScope (top 76), [], []⟩,
  ⟨("_law_m_classes", none), "_law_m_classes", "_law_m_classes", defArgs (top 83), defBody (top 83), defScope (top 83), [], []⟩,
  ⟨("_law_m_raised_by", none), "_law_m_raised_by", "_law_m_raised_by", defArgs (top 84), defBody (top 84), defScope (top 84), [], []⟩,
  ⟨("_law_equal", none), "_law_equal", "_law_equal", defArgs (top 82), defBody (top 82), defScope (top 82), [], []⟩,
  ⟨("_law_equal", none), "_law_equal", "_law_equal", defArgs (top 82), defBody (top 82), defScope (top 82), [], []⟩,
  ⟨("law", none), "law", "law", defArgs (top 85), defBody (top 85), defScope (top 85), [], []⟩]
def exNames : List Str := ["BadText", "BadModel", "NotATask", "NotAProof"]
def exB (K : PySem.W.Frag) : Bool := (exNames.all fun x => exeB K (He.ga K x) && (decide (PySem.W.exmOne K (.ref (He.ga K x)) (.ref (He.ga K "BestError")) = some true) && (decide (PySem.W.kitOne K (.ref (He.ga K x)) (.type "ValueError") = some true) &&
    exNames.all fun y => decide (PySem.W.kitOne K (.ref (He.ga K x)) (.ref (He.ga K y)) = some (x == y))))) &&
  (oexB K (He.ga K "BadModel") && (baseB K (He.ga K "BestError") && (xfB K (He.ga K "BadModel") && (decide (PySem.W.findIn K (.ref (He.ga K "BadModel")) "__init__" = some (some (.ref (He.ma K (He.ga K "BadModel") "__init__")))) &&
  (decide (PySem.W.typeIn K (.ref (He.ma K (He.ga K "BadModel") "__init__")) = some (.type "function")) && (decide (PySem.W.findIn K (.ref (He.ga K "BadModel")) "line" = some none) && decide (PySem.W.findIn K (.ref (He.ga K "BadModel")) "what" = some none)))))))
structure ExOk (K : PySem.W.Frag) : Prop where
  each : ∀ x ∈ exNames, ExE K (He.ga K x) ∧ PySem.W.exmOne K (.ref (He.ga K x)) (.ref (He.ga K "BestError")) = some true ∧ PySem.W.kitOne K (.ref (He.ga K x)) (.type "ValueError") = some true ∧ ∀ y ∈ exNames, PySem.W.kitOne K (.ref (He.ga K x)) (.ref (He.ga K y)) = some (x == y)
  own : OexC K (He.ga K "BadModel")
  base : baseB K (He.ga K "BestError") = true
  xf : XfC K (He.ga K "BadModel")
  ini : PySem.W.findIn K (.ref (He.ga K "BadModel")) "__init__" = some (some (.ref (He.ma K (He.ga K "BadModel") "__init__")))
  fun_ : PySem.W.typeIn K (.ref (He.ma K (He.ga K "BadModel") "__init__")) = some (.type "function")
  line : PySem.W.findIn K (.ref (He.ga K "BadModel")) "line" = some none
  what : PySem.W.findIn K (.ref (He.ga K "BadModel")) "what" = some none
theorem exB_ok {K : PySem.W.Frag} (h : exB K = true) : ExOk K := by
  unfold exB at h
  simp only [Bool.and_eq_true, decide_eq_true_eq] at h
  obtain ⟨h0, h1, h2, h3, h4, h5, h6, h7⟩ := h
  refine ⟨fun x hx => ?_, oexB_ok h1, h2, xfB_ok h3, h4, h5, h6, h7⟩
  have q := List.all_eq_true.mp h0 x hx
  simp only [Bool.and_eq_true, decide_eq_true_eq] at q
  obtain ⟨q1, q2, q3, q4⟩ := q
  exact ⟨exeB_ok q1, q2, q3, fun y hy => of_decide_eq_true (List.all_eq_true.mp q4 y hy)⟩
def okX (n : Nat) : Bool := n == 1 || (n == 2 || (n == 3 || n == 4))
def tbX (n j : Nat) : Option Bool := if 4 ≤ j ∧ j ≤ 7 then some (j == n + 3) else none
def ttX (T : String) : Option Bool := if T = "ValueError" then some true else none
structure Wk (K : PySem.W.Frag) (mg : Str → Option Value) : Prop extends Wd fa fn gs fns cls_ K mg where
  xb : exB K = true
theorem exAt {K : PySem.W.Frag} {n : Nat} (h : okX n = true) : ∃ x ∈ exNames, (gx fns cls_ K).ca n = He.ga K x ∧ exNames[n - 1]? = some x ∧ 1 ≤ n := by
  simp only [okX, Bool.or_eq_true, beq_iff_eq] at h
  rcases h with rfl | rfl | rfl | rfl
  · exact ⟨"BadText", by decide, rfl, rfl, by decide⟩
  · exact ⟨"BadModel", by decide, rfl, rfl, by decide⟩
  · exact ⟨"NotATask", by decide, rfl, rfl, by decide⟩
  · exact ⟨"NotAProof", by decide, rfl, rfl, by decide⟩
theorem okX_exe {K : PySem.W.Frag} {mg : Str → Option Value} (W : Wk K mg) {n : Nat} (h : okX n = true) : ExE K ((gx fns cls_ K).ca n) := by
  obtain ⟨x, hx, e, _⟩ := exAt (K := K) h
  rw [e]
  exact ((exB_ok W.xb).each x hx).1
theorem okX_exm {K : PySem.W.Frag} {mg : Str → Option Value} (W : Wk K mg) (n : Nat) (h : okX n = true) : PySem.W.exmOne K (.ref ((gx fns cls_ K).ca n)) (.ref (He.ga K "BestError")) = some true := by
  obtain ⟨x, hx, e, _⟩ := exAt (K := K) h
  rw [e]
  exact ((exB_ok W.xb).each x hx).2.1
theorem okX_tt {K : PySem.W.Frag} {mg : Str → Option Value} (W : Wk K mg) {n : Nat} (h : okX n = true) (T : String) (b : Bool) (e : ttX T = some b) : PySem.W.kitOne K (.ref ((gx fns cls_ K).ca n)) (.type T) = some b := by
  obtain ⟨x, hx, e1, _⟩ := exAt (K := K) h
  rw [e1]
  unfold ttX at e
  split at e
  · rename_i hT
    cases e
    rw [hT]
    exact ((exB_ok W.xb).each x hx).2.2.1
  · cases e
theorem okX_tb {K : PySem.W.Frag} {mg : Str → Option Value} (W : Wk K mg) {n : Nat} (h : okX n = true) (j : Nat) (b : Bool) (e : tbX n j = some b) : PySem.W.kitOne K (.ref ((gx fns cls_ K).ca n)) (.ref ((gx fns cls_ K).fa j)) = some b := by
  have q := (exB_ok W.xb).each
  unfold tbX at e
  split at e
  · rename_i hj
    cases e
    have hj' : j = 4 ∨ j = 5 ∨ j = 6 ∨ j = 7 := by omega
    simp only [okX, Bool.or_eq_true, beq_iff_eq] at h
    rcases h with rfl | rfl | rfl | rfl <;> rcases hj' with rfl | rfl | rfl | rfl
    · exact (q "BadText" (by decide)).2.2.2 "BadText" (by decide)
    · exact (q "BadText" (by decide)).2.2.2 "BadModel" (by decide)
    · exact (q "BadText" (by decide)).2.2.2 "NotATask" (by decide)
    · exact (q "BadText" (by decide)).2.2.2 "NotAProof" (by decide)
    · exact (q "BadModel" (by decide)).2.2.2 "BadText" (by decide)
    · exact (q "BadModel" (by decide)).2.2.2 "BadModel" (by decide)
    · exact (q "BadModel" (by decide)).2.2.2 "NotATask" (by decide)
    · exact (q "BadModel" (by decide)).2.2.2 "NotAProof" (by decide)
    · exact (q "NotATask" (by decide)).2.2.2 "BadText" (by decide)
    · exact (q "NotATask" (by decide)).2.2.2 "BadModel" (by decide)
    · exact (q "NotATask" (by decide)).2.2.2 "NotATask" (by decide)
    · exact (q "NotATask" (by decide)).2.2.2 "NotAProof" (by decide)
    · exact (q "NotAProof" (by decide)).2.2.2 "BadText" (by decide)
    · exact (q "NotAProof" (by decide)).2.2.2 "BadModel" (by decide)
    · exact (q "NotAProof" (by decide)).2.2.2 "NotATask" (by decide)
    · exact (q "NotAProof" (by decide)).2.2.2 "NotAProof" (by decide)
  · cases e
theorem bt_ValueError : bootBuiltins "ValueError" = some (.type "ValueError") := by kernel_rfl
def okC : Nat → Bool := fun c => decide (c < 1)
def flds : List Str := ["_place", "_signs", "number"]
theorem fAll {K : PySem.W.Frag} {mg : Str → Option Value} (W : Wk K mg) : ∀ c, c < 1 → ∀ f ∈ flds, Cls K ((gx fns cls_ K).ca c) ∧ NoAttr K ((gx fns cls_ K).ca c) f := by
  intro c hc f hf
  simp only [flds, List.mem_cons, List.mem_nil_iff, or_false] at hf
  match c, hc with
  | 0, _ =>
    refine ⟨He.cls_ok (x := "Reader") (W.says.fact 28), ?_⟩
    rcases hf with rfl | rfl | rfl
    · exact He.noat_ok (x := "Reader") (W.says.fact 62)
    · exact He.noat_ok (x := "Reader") (W.says.fact 61)
    · exact He.noat_ok (x := "Reader") (W.says.fact 60)
theorem fOk {K : PySem.W.Frag} {mg : Str → Option Value} (W : Wk K mg) (f : Str) (hf : f ∈ flds) : FldOk K (gx fns cls_ K) okC f := fun c hc => fAll W c (of_decide_eq_true hc) f hf
theorem fOnly {K : PySem.W.Frag} {mg : Str → Option Value} (W : Wk K mg) (c0 : Nat) (f : Str) (h0 : c0 < 1) (hf : f ∈ flds) : FldOk K (gx fns cls_ K) (onlyC c0) f := fun c hc => by
  have e : c = c0 := eq_of_beq hc
  subst e
  exact fAll W c h0 f hf
section
variable {P : Program} {w : World} {K : PySem.W.Frag} {mg : Str → Option Value} {base : Heap}
/-! is_int -/
def m_is_int : MS := (sRet (mAnd (mCal isiL (mCons (mVar 0) (mCons (mC (.ty "int")) mNil))) (mNot (mCal isiL (mCons (mVar 0) (mCons (mC (.ty "bool")) mNil))))))
def f_is_int := bodyP 1 1 m_is_int
theorem sc_is_int : FnScope ["value"] ["value"] (defScope (top 10)) := ⟨rfl, rfl, rfl, by decide +kernel, rfl, by decide +kernel, by decide +kernel⟩
theorem ok_is_int (W : Wk K mg) : DefOk P w K mg base "is_int" 1 (SpP (gx fns cls_ K) f_is_int) := by
  obtain ⟨fd, F⟩ := W.says.def_ 0 rfl
  refine ⟨⟨_, fd, ["value"], F.ok sc_is_int (len_P rfl) (fun cdv A outer s H vs Q E hr h => ⟨_, PSs.nox ?_, read_P h⟩), W.fun_ 9, F.kp, F.bindsN fun _ _ _ _ _ _ us hl => match us, hl with | [_], _ => rfl⟩⟩
  exact (s_one (s_ret (e_and (e_callB (c_isi (by rfl)) (by rfl) (W.free 7) bt_isinstance (a_cons (e_var 0) (a_cons (e_ty (by rfl) (W.free 8) bt_int) a_nil))) (e_one (e_not (e_callB (c_isi (by rfl)) (by rfl) (W.free 7) bt_isinstance (a_cons (e_var 0) (a_cons (e_ty (by rfl) (W.free 6) bt_bool) a_nil))))))))
/-! common -/
def m_common : MS := (sSeq (sPar 0 1 (mCons (mCal absL (mCons (mVar 0) mNil)) (mCons (mCal absL (mCons (mVar 1) mNil)) mNil))) (sSeq (sWhile (mTest (mOp gtD (mVar 1) (mC (.int 0)))) (sPar 0 1 (mCons (mVar 1) (mCons (mOp modD (mVar 0) (mVar 1)) mNil))) 1000) (sRet (mVar 0))))
def f_common := bodyP 2 2 m_common
theorem sc_common : FnScope ["a", "b"] ["a", "b"] (defScope (top 11)) := ⟨rfl, rfl, rfl, by decide +kernel, rfl, by decide +kernel, by decide +kernel⟩
theorem ok_common (W : Wk K mg) : DefOk P w K mg base "common" 1 (SpP (gx fns cls_ K) f_common) := by
  obtain ⟨fd, F⟩ := W.says.def_ 1 rfl
  refine ⟨⟨_, fd, ["a", "b"], F.ok sc_common (len_P rfl) (fun cdv A outer s H vs Q E hr h => ⟨_, PSs.nox ?_, read_P h⟩), W.fun_ 11, F.kp, F.bindsN fun _ _ _ _ _ _ us hl => match us, hl with | [_, _], _ => rfl⟩⟩
  exact (s_cons (s_par (i := 0) (j := 1) rfl sc_common.nd rfl rfl (by decide) rfl rfl (a_cons (e_callB c_abs (by rfl) (W.free 10) bt_abs (a_cons (e_var 0) a_nil)) (a_cons (e_callB c_abs (by rfl) (W.free 10) bt_abs (a_cons (e_var 1) a_nil)) a_nil)) rfl)
    (s_cons (s_while 1000 PassesOwn.never (t_cmp o_gt (e_var 1) e_int (nomark _))
    (s_one (s_par (i := 0) (j := 1) rfl sc_common.nd rfl rfl (by decide) rfl rfl (a_cons (e_var 1) (a_cons (e_op (o_mod) (e_var 0) (e_var 1)) a_nil)) rfl)))
    (s_one (s_ret (e_var 0)))))
/-! is_fraction -/
def m_is_fraction : MS := (sSeq (sIf (tOr' (tNot' (mTest (mCal isiL (mCons (mVar 0) (mCons (mC (.ty "tuple")) mNil))))) (tOr' (mTest (mOp neD (mCal lenL (mCons (mVar 0) mNil)) (mC (.int 2)))) (tOr' (tNot' (mTest (mCall (callP f_is_int) (mCons (mOp ixD (mVar 0) (mC (.int 0))) mNil)))) (tNot' (mTest (mCall (callP f_is_int) (mCons (mOp ixD (mVar 0) (mC (.int 1))) mNil))))))) sNever sNx) (sRet (mAnd (mOp geD (mOp ixD (mVar 0) (mC (.int 1))) (mC (.int 1))) (mOp eqD (mCall (callP f_common) (mCons (mOp ixD (mVar 0) (mC (.int 0))) (mCons (mOp ixD (mVar 0) (mC (.int 1))) mNil))) (mC (.int 1))))))
def f_is_fraction := bodyP 1 1 m_is_fraction
theorem sc_is_fraction : FnScope ["value"] ["value"] (defScope (top 12)) := ⟨rfl, rfl, rfl, by decide +kernel, rfl, by decide +kernel, by decide +kernel⟩
theorem ok_is_fraction (W : Wk K mg) : DefOk P w K mg base "is_fraction" 2 (SpP (gx fns cls_ K) f_is_fraction) := by
  obtain ⟨fd, F⟩ := W.says.def_ 2 rfl
  refine ⟨⟨_, fd, ["value"], F.ok sc_is_fraction (len_P rfl) (fun cdv A outer s H vs Q E hr h => ⟨_, PSs.nox ?_, read_P h⟩), W.fun_ 14, F.kp, F.bindsN fun _ _ _ _ _ _ us hl => match us, hl with | [_], _ => rfl⟩⟩
  exact (s_cons (s_if (PW.pt (w_or (t_not (t_val (e_callB (c_isi (by rfl)) (by rfl) (W.free 7) bt_isinstance (a_cons (e_var 0) (a_cons (e_ty (by rfl) (W.free 13) bt_tuple) a_nil))))) (w_or (t_cmp (o_ne (by rfl) (room_u64 hr)) (e_callB (c_len (by rfl)) (by rfl) (W.free 12) bt_len (a_cons (e_var 0) a_nil)) e_int (nomark _)) (w_or (t_not (t_val (e_callP (ok_is_int W) (hr.mono (by decide)) (by rfl) (a_cons (e_ix (ix_D (by rfl)) (e_var 0) e_int (fun _ _ => rfl)) a_nil)))) (w_one_or (t_not (t_val (e_callP (ok_is_int W) (hr.mono (by decide)) (by rfl) (a_cons (e_ix (ix_D (by rfl)) (e_var 0) e_int (fun _ _ => rfl)) a_nil)))))))))
    s_nevers
    s_nil)
    (s_one (s_ret (e_and (e_cmp o_ge (e_ix (ix_D (by rfl)) (e_var 0) e_int (fun _ _ => rfl)) e_int (nomark _)) (e_one (e_cmp (o_eq (by rfl) (room_u64 hr)) (e_callP (ok_common W) (hr.mono (by decide)) (by rfl) (a_cons (e_ix (ix_D (by rfl)) (e_var 0) e_int (fun _ _ => rfl)) (a_cons (e_ix (ix_D (by rfl)) (e_var 0) e_int (fun _ _ => rfl)) a_nil))) e_int (nomark _)))))))
/-! is_whole -/
def m_is_whole : MS := sNever
def f_is_whole := bodyP 1 1 m_is_whole
theorem sc_is_whole : FnScope ["a"] ["a"] (defScope (top 15)) := ⟨rfl, rfl, rfl, by decide +kernel, rfl, by decide +kernel, by decide +kernel⟩
theorem ok_is_whole (W : Wk K mg) : DefOk P w K mg base "is_whole" 1 (SpP (gx fns cls_ K) f_is_whole) := by
  obtain ⟨fd, F⟩ := W.says.def_ 3 rfl
  refine ⟨⟨_, fd, ["a"], F.ok sc_is_whole (len_P rfl) (fun cdv A outer s H vs Q E hr h => ⟨_, PSs.nox ?_, read_P h⟩), W.fun_ 15, F.kp, F.bindsN fun _ _ _ _ _ _ us hl => match us, hl with | [_], _ => rfl⟩⟩
  exact s_nevers
/-! write_fraction -/
def m_write_fraction : MS := (sRet (mIf (mTest (mOp eqD (mOp ixD (mVar 0) (mC (.int 1))) (mC (.int 1)))) (mCal strL (mCons (mOp ixD (mVar 0) (mC (.int 0))) mNil)) (mOp addD (mOp addD (mCal strL (mCons (mOp ixD (mVar 0) (mC (.int 0))) mNil)) (mC (.str "/"))) (mCal strL (mCons (mOp ixD (mVar 0) (mC (.int 1))) mNil)))))
def f_write_fraction := bodyP 1 1 m_write_fraction
theorem sc_write_fraction : FnScope ["a"] ["a"] (defScope (top 16)) := ⟨rfl, rfl, rfl, by decide +kernel, rfl, by decide +kernel, by decide +kernel⟩
theorem ok_write_fraction (W : Wk K mg) : DefOk P w K mg base "write_fraction" 1 (SpP (gx fns cls_ K) f_write_fraction) := by
  obtain ⟨fd, F⟩ := W.says.def_ 4 rfl
  refine ⟨⟨_, fd, ["a"], F.ok sc_write_fraction (len_P rfl) (fun cdv A outer s H vs Q E hr h => ⟨_, PSs.nox ?_, read_P h⟩), W.fun_ 17, F.kp, F.bindsN fun _ _ _ _ _ _ us hl => match us, hl with | [_], _ => rfl⟩⟩
  exact (s_one (s_ret (e_ifx (t_cmp (o_eq (by rfl) (room_u64 hr)) (e_ix (ix_D (by rfl)) (e_var 0) e_int (fun _ _ => rfl)) e_int (nomark _)) (e_callTy c_str (by rfl) (W.free 16) bt_str (a_cons (e_ix (ix_D (by rfl)) (e_var 0) e_int (fun _ _ => rfl)) a_nil)) (e_op (o_add (by rfl)) (e_op (o_add (by rfl)) (e_callTy c_str (by rfl) (W.free 16) bt_str (a_cons (e_ix (ix_D (by rfl)) (e_var 0) e_int (fun _ _ => rfl)) a_nil)) e_str) (e_callTy c_str (by rfl) (W.free 16) bt_str (a_cons (e_ix (ix_D (by rfl)) (e_var 0) e_int (fun _ _ => rfl)) a_nil))))))
/-! read_digits -/
def m_read_digits : MS := (sSeq (sIf (tOr' (mTest (mOp eqD (mVar 0) (mC (.str "")))) (tOr' (mTest (mOp gtD (mCal lenL (mCons (mVar 0) mNil)) (mC (.int 40)))) (tNot' (mTest (mCal allL (mCons (mLc (iSeq (mVar 0)) (tn1 (.nm 1) tYes' (mOp inD (mVar 1) (mC (.str "0123456789")))) [1]) mNil)))))) sNever sNx) (sSeq (sIf (tAnd' (mTest (mOp eqD (mOp ixD (mVar 0) (mC (.int 0))) (mC (.str "0")))) (mTest (mOp neD (mVar 0) (mC (.str "0"))))) sNever sNx) (sRet (mCal intSL (mCons (mVar 0) mNil)))))
def f_read_digits := bodyP 1 2 m_read_digits
theorem sc_read_digits : FnScope ["text", "sign_"] ["text"] (defScope (top 17)) := ⟨rfl, rfl, rfl, by decide +kernel, rfl, by decide +kernel, by decide +kernel⟩
theorem ok_read_digits (W : Wk K mg) : DefOk P w K mg base "read_digits" 1 (SpP (gx fns cls_ K) f_read_digits) := by
  obtain ⟨fd, F⟩ := W.says.def_ 5 rfl
  refine ⟨⟨_, fd, ["text"], F.ok sc_read_digits (len_P rfl) (fun cdv A outer s H vs Q E hr h => ⟨_, PSs.nox ?_, read_P h⟩), W.fun_ 19, F.kp, F.bindsN fun _ _ _ _ _ _ us hl => match us, hl with | [_], _ => rfl⟩⟩
  exact (s_cons (s_if (PW.pt (w_or (t_cmp (o_eq (by rfl) (room_u64 hr)) (e_var 0) e_str (nomark _)) (w_or (t_cmp o_gt (e_callB (c_len (by rfl)) (by rfl) (W.free 12) bt_len (a_cons (e_var 0) a_nil)) e_int (nomark _)) (w_one_or (t_not (t_val (e_callB (c_all (by rfl)) (by rfl) (W.free 18) bt_all (a_cons (e_lc (by rfl) sc_read_digits.nd (i_seq (by rfl) (e_var 0)) (blkOk_by (own := [("sign_", 1)]) (by kernel_rfl)) (fun _ _ _ _ _ => (tg_name (i := 1) sc_read_digits.nd rfl (by first | exact Or.inl rfl | exact Or.inr rfl))) (fun _ _ _ _ _ => ts_nil) (fun _ _ _ _ _ => (e_cmp (o_in (by rfl) (room_u hr)) (e_var 1) (e_glo (W.glo 2)) (by with_unfolding_all rfl))) rfl) a_nil))))))))
    (s_one s_never)
    s_nil)
    (s_cons (s_if (PW.pt (w_and (t_cmp (o_eq (by rfl) (room_u64 hr)) (e_ix (ix_D (by rfl)) (e_var 0) e_int (fun _ _ => rfl)) e_str (nomark _)) (w_one_and (t_cmp (o_ne (by rfl) (room_u64 hr)) (e_var 0) e_str (nomark _)))))
    s_nevers
    s_nil)
    (s_one (s_ret (e_callTy c_intS (by rfl) (W.free 8) bt_int (a_cons (e_var 0) a_nil))))))
/-! read_fraction -/
def m_read_fraction : MS := (sSeq (sAsg (mIf (mTest (mOp eqD (mSl slD (mVar 0) oNo (oPart (mC (.int 1)))) (mC (.str "-")))) (mSl slD (mVar 0) (oPart (mC (.int 1))) oNo) (mVar 0)) (gNm 1)) (sSeq (sAsg (mMt "str" partM (mVar 1) (mCons (mC (.str "/")) mNil)) (gTpN 3 (gCons' (gNm 2) (gCons' (gNm 3) (gCons' (gNm 4) gNil'))))) (sSeq (sAsg (mTup (mCons (mCall (callP f_read_digits) (mCons (mVar 2) mNil)) (mCons (mIf (mTest (mOp neD (mVar 3) (mC (.str "")))) (mCall (callP f_read_digits) (mCons (mVar 4) mNil)) (mC (.int 1))) mNil))) (gNm 5)) (sSeq (sAsg (mIf (mTest (mOp eqD (mSl slD (mVar 0) oNo (oPart (mC (.int 1)))) (mC (.str "-")))) (mTup (mCons (mUn negD (mOp ixD (mVar 5) (mC (.int 0)))) (mCons (mOp ixD (mVar 5) (mC (.int 1))) mNil))) (mVar 5)) (gNm 5)) (sSeq (sIf (tOr' (tNot' (mTest (mCall (callP f_is_fraction) (mCons (mVar 5) mNil)))) (mTest (mOp neD (mCall (callP f_write_fraction) (mCons (mVar 5) mNil)) (mVar 0)))) sNever sNx) (sRet (mVar 5)))))))
def f_read_fraction := bodyP 1 6 m_read_fraction
theorem sc_read_fraction : FnScope ["text", "body", "top", "bar", "low", "found"] ["text"] (defScope (top 18)) := ⟨rfl, rfl, rfl, by decide +kernel, rfl, by decide +kernel, by decide +kernel⟩
theorem ok_read_fraction (W : Wk K mg) : DefOk P w K mg base "read_fraction" 3 (SpP (gx fns cls_ K) f_read_fraction) := by
  obtain ⟨fd, F⟩ := W.says.def_ 6 rfl
  refine ⟨⟨_, fd, ["text"], F.ok sc_read_fraction (len_P rfl) (fun cdv A outer s H vs Q E hr h => ⟨_, PSs.nox ?_, read_P h⟩), W.fun_ 20, F.kp, F.bindsN fun _ _ _ _ _ _ us hl => match us, hl with | [_], _ => rfl⟩⟩
  exact (s_cons (s_asg (e_ifx (t_cmp (o_eq (by rfl) (room_u64 hr)) (e_slice (by rfl) (e_var 0) o_no (o_part e_int)) e_str (nomark _)) (e_slice (by rfl) (e_var 0) (o_part e_int) o_no) (e_var 0)) (g_name (i := 1) sc_read_fraction.nd (by rfl) (by first | exact Or.inl rfl | exact Or.inr rfl)))
    (s_cons (s_asg (e_mt PySem.F.plainAttrs_str PySem.F.slot_str_partition PySem.F.type_str_partition m_part (e_var 1) (a_cons e_str a_nil)) (g_tup (by rfl) (by rfl) (gs_cons (g_name (i := 2) sc_read_fraction.nd (by rfl) (by first | exact Or.inl rfl | exact Or.inr rfl)) (gs_cons (g_name (i := 3) sc_read_fraction.nd (by rfl) (by first | exact Or.inl rfl | exact Or.inr rfl)) (gs_cons (g_name (i := 4) sc_read_fraction.nd (by rfl) (by first | exact Or.inl rfl | exact Or.inr rfl)) gs_nil)))))
    (s_cons (s_asg (e_tup (a_cons (e_callP (ok_read_digits W) (hr.mono (by decide)) (by rfl) (a_cons (e_var 2) a_nil)) (a_cons (e_ifx (t_cmp (o_ne (by rfl) (room_u64 hr)) (e_var 3) e_str (nomark _)) (e_callP (ok_read_digits W) (hr.mono (by decide)) (by rfl) (a_cons (e_var 4) a_nil)) e_int) a_nil))) (g_name (i := 5) sc_read_fraction.nd (by rfl) (by first | exact Or.inl rfl | exact Or.inr rfl)))
    (s_cons (s_asg (e_ifx (t_cmp (o_eq (by rfl) (room_u64 hr)) (e_slice (by rfl) (e_var 0) o_no (o_part e_int)) e_str (nomark _)) (e_tup (a_cons (e_un o_neg (e_ix (ix_D (by rfl)) (e_var 5) e_int (fun _ _ => rfl))) (a_cons (e_ix (ix_D (by rfl)) (e_var 5) e_int (fun _ _ => rfl)) a_nil))) (e_var 5)) (g_name (i := 5) sc_read_fraction.nd (by rfl) (by first | exact Or.inl rfl | exact Or.inr rfl)))
    (s_cons (s_if (PW.pt (w_or (t_not (t_val (e_callP (ok_is_fraction W) (hr.mono (by decide)) (by rfl) (a_cons (e_var 5) a_nil)))) (w_one_or (t_cmp (o_ne (by rfl) (room_u64 hr)) (e_callP (ok_write_fraction W) (hr.mono (by decide)) (by rfl) (a_cons (e_var 5) a_nil)) (e_var 0) (nomark _)))))
    s_nevers
    s_nil)
    (s_one (s_ret (e_var 5))))))))
/-! sign_at -/
def m_sign_at : MS := (sSeq (sFor (iSeq (mC (.tup [.str "<=", .str ">=", .str "..", .str "=", .str "+", .str "-", .str "*", .str "/", .str "(", .str ")", .str "[", .str "]", .str ",", .str ":", .str "<"]))) (gNm 2) (sIf (mTest (mMt "str" startM (mVar 0) (mCons (mVar 2) (mCons (mVar 1) mNil)))) sNever sNx)) (sSeq (sFor (iSeq (mTup (mCons (mTup (mCons (mC (.str "name")) (mCons (mC (.str "abcdefghijklmnopqrstuvwxyz")) (mCons (mC (.str "abcdefghijklmnopqrstuvwxyz")) mNil)))) (mCons (mTup (mCons (mC (.str "number")) (mCons (mC (.str "0123456789")) (mCons (mC (.str "0123456789")) mNil)))) mNil)))) (gTpN 3 (gCons' (gNm 3) (gCons' (gNm 4) (gCons' (gNm 5) gNil')))) (sIf (mTest (mOp inD (mOp ixD (mVar 0) (mVar 1)) (mVar 4))) (sSeq (sAsg (mC (.int 1)) (gNm 6)) (sSeq (sWhile (tAnd' (mTest (mOp ltD (mOp addD (mVar 1) (mVar 6)) (mCal lenL (mCons (mVar 0) mNil)))) (mTest (mOp inD (mOp ixD (mVar 0) (mOp addD (mVar 1) (mVar 6))) (mVar 5)))) sNever 1000) (sRet (mTup (mCons (mVar 3) (mCons (mVar 6) mNil)))))) sNx)) sNever))
def f_sign_at := bodyP 2 7 m_sign_at
theorem sc_sign_at : FnScope ["line", "place", "mark", "kind", "first", "others", "size"] ["line", "place"] (defScope (top 26)) := ⟨rfl, rfl, rfl, by decide +kernel, rfl, by decide +kernel, by decide +kernel⟩
theorem ok_sign_at (W : Wk K mg) : DefOk P w K mg base "sign_at" 1 (SpP (gx fns cls_ K) f_sign_at) := by
  obtain ⟨fd, F⟩ := W.says.def_ 7 rfl
  refine ⟨⟨_, fd, ["line", "place"], F.ok sc_sign_at (len_P rfl) (fun cdv A outer s H vs Q E hr h => ⟨_, PSs.nox ?_, read_P h⟩), W.fun_ 21, F.kp, F.bindsN fun _ _ _ _ _ _ us hl => match us, hl with | [_, _], _ => rfl⟩⟩
  exact (s_cons (s_for PassesOwn.never (by rfl) (i_seq (by rfl) (e_glo (W.glo 5))) (g_name (i := 2) sc_sign_at.nd (by rfl) (by first | exact Or.inl rfl | exact Or.inr rfl))
    (s_one (s_if (t_val (e_mt PySem.F.plainAttrs_str PySem.F.slot_str_startswith PySem.F.type_str_startswith m_start (e_var 0) (a_cons (e_var 2) (a_cons (e_var 1) a_nil))))
    s_nevers
    s_nil)))
    (s_cons (s_for PassesOwn.never (by rfl) (i_seq (by rfl) (e_tup (a_cons (e_tup (a_cons e_str (a_cons (e_glo (W.glo 3)) (a_cons (e_glo (W.glo 3)) a_nil)))) (a_cons (e_tup (a_cons e_str (a_cons (e_glo (W.glo 4)) (a_cons (e_glo (W.glo 4)) a_nil)))) a_nil)))) (g_tup (by rfl) (by rfl) (gs_cons (g_name (i := 3) sc_sign_at.nd (by rfl) (by first | exact Or.inl rfl | exact Or.inr rfl)) (gs_cons (g_name (i := 4) sc_sign_at.nd (by rfl) (by first | exact Or.inl rfl | exact Or.inr rfl)) (gs_cons (g_name (i := 5) sc_sign_at.nd (by rfl) (by first | exact Or.inl rfl | exact Or.inr rfl)) gs_nil))))
    (s_one (s_if (t_cmp (o_in (by rfl) (room_u hr)) (e_ix (ix_D (by rfl)) (e_var 0) (e_var 1) (fun _ _ => rfl)) (e_var 4) (by with_unfolding_all rfl))
    (s_cons (s_asg e_int (g_name (i := 6) sc_sign_at.nd (by rfl) (by first | exact Or.inl rfl | exact Or.inr rfl)))
    (s_cons (s_while 1000 PassesOwn.never (PW.pt (w_and (t_cmp o_lt (e_op (o_add (by rfl)) (e_var 1) (e_var 6)) (e_callB (c_len (by rfl)) (by rfl) (W.free 12) bt_len (a_cons (e_var 0) a_nil)) (nomark _)) (w_one_and (t_cmp (o_in (by rfl) (room_u hr)) (e_ix (ix_D (by rfl)) (e_var 0) (e_op (o_add (by rfl)) (e_var 1) (e_var 6)) (fun _ _ => rfl)) (e_var 5) (by with_unfolding_all rfl)))))
    s_nevers)
    (s_one (s_ret (e_tup (a_cons (e_var 3) (a_cons (e_var 6) a_nil)))))))
    s_nil)))
    s_nevers))
/-! signs_of -/
def m_signs_of : MS := (sSeq (sPar 2 3 (mCons (mNew mNil) (mCons (mC (.int 0)) mNil))) (sSeq (sWhile (mTest (mOp ltD (mVar 3) (mCal lenL (mCons (mVar 0) mNil)))) (sSeq (sAsg (mOp ixD (mVar 0) (mVar 3)) (gNm 4)) (sSeq (sIf (mTest (mOp eqD (mVar 4) (mC (.str " ")))) sNever sNx) (sSeq (sAsg (mCall (callP f_sign_at) (mCons (mVar 0) (mCons (mVar 3) mNil))) (gTpN 2 (gCons' (gNm 5) (gCons' (gNm 6) gNil')))) (sSeq (sIf (mTest (mOp isD (mVar 5) (mC .non))) sNever sNx) (sSeq (sExp (mMt "list" appendM (mVar 2) (mCons (mTup (mCons (mVar 5) (mCons (mSl slD (mVar 0) (oPart (mVar 3)) (oPart (mOp addD (mVar 3) (mVar 6)))) mNil))) mNil))) (sAug 3 (mVar 6) iaddD)))))) 1000) (sRet (mVar 2))))
def f_signs_of := bodyP 2 7 m_signs_of
theorem sc_signs_of : FnScope ["line", "number", "found", "place", "letter", "kind", "size"] ["line", "number"] (defScope (top 25)) := ⟨rfl, rfl, rfl, by decide +kernel, rfl, by decide +kernel, by decide +kernel⟩
theorem ok_signs_of (W : Wk K mg) : DefOk P w K mg base "signs_of" 2 (SpP (gx fns cls_ K) f_signs_of) := by
  obtain ⟨fd, F⟩ := W.says.def_ 8 rfl
  refine ⟨⟨_, fd, ["line", "number"], F.ok sc_signs_of (len_P rfl) (fun cdv A outer s H vs Q E hr h => ⟨_, PSs.nox ?_, read_P h⟩), W.fun_ 22, F.kp, F.bindsN fun _ _ _ _ _ _ us hl => match us, hl with | [_, _], _ => rfl⟩⟩
  exact (s_cons (s_par (i := 2) (j := 3) rfl sc_signs_of.nd rfl rfl (by decide) rfl rfl (a_cons (e_new a_nil) (a_cons e_int a_nil)) rfl)
    (s_cons (s_while 1000 PassesOwn.never (t_cmp o_lt (e_var 3) (e_callB (c_len (by rfl)) (by rfl) (W.free 12) bt_len (a_cons (e_var 0) a_nil)) (nomark _))
    (s_cons (s_asg (e_ix (ix_D (by rfl)) (e_var 0) (e_var 3) (fun _ _ => rfl)) (g_name (i := 4) sc_signs_of.nd (by rfl) (by first | exact Or.inl rfl | exact Or.inr rfl)))
    (s_cons (s_if (t_cmp (o_eq (by rfl) (room_u64 hr)) (e_var 4) e_str (nomark _))
    s_nevers
    s_nil)
    (s_cons (s_asg (e_callP (ok_sign_at W) (hr.mono (by decide)) (by rfl) (a_cons (e_var 0) (a_cons (e_var 3) a_nil))) (g_tup (by rfl) (by rfl) (gs_cons (g_name (i := 5) sc_signs_of.nd (by rfl) (by first | exact Or.inl rfl | exact Or.inr rfl)) (gs_cons (g_name (i := 6) sc_signs_of.nd (by rfl) (by first | exact Or.inl rfl | exact Or.inr rfl)) gs_nil))))
    (s_cons (s_if (t_cmp o_is (e_var 5) e_non (nomark _))
    s_nevers
    s_nil)
    (s_cons (s_expr (e_mt PySem.F.plainAttrs_list PySem.F.slot_list_append PySem.F.type_list_append m_append (e_var 2) (a_cons (e_tup (a_cons (e_var 5) (a_cons (e_slice (by rfl) (e_var 0) (o_part (e_var 3)) (o_part (e_op (o_add (by rfl)) (e_var 3) (e_var 6)))) a_nil))) a_nil)))
    (s_one (s_aug (i := 3) sc_signs_of.nd (by rfl) (by first | exact Or.inl rfl | exact Or.inr rfl) (e_var 6) ip_iaddD))))))))
    (s_one (s_ret (e_var 2)))))
/-! lines_of -/
def m_lines_of : MS := (sSeq (sAsg (mNew mNil) (gNm 1)) (sSeq (sAsg (mMt "str" splitM (mVar 0) (mCons (mC (.str "\n")) mNil)) (gNm 2)) (sSeq (sFor (iRange1 (mCons (mCal lenL (mCons (mVar 2) mNil)) mNil)) (gNm 3) (sSeq (sAsg (mCall (callP f_signs_of) (mCons (mOp ixD (mMt "str" partM (mOp ixD (mVar 2) (mVar 3)) (mCons (mC (.str "#")) mNil)) (mC (.int 0))) (mCons (mOp addD (mVar 3) (mC (.int 1))) mNil))) (gNm 4)) (sIf (mTest (mOp gtD (mCal lenL (mCons (mVar 4) mNil)) (mC (.int 0)))) (sExp (mMt "list" appendM (mVar 1) (mCons (mTup (mCons (mOp addD (mVar 3) (mC (.int 1))) (mCons (mVar 4) mNil))) mNil))) sNx))) (sRet (mVar 1)))))
def f_lines_of := bodyP 1 5 m_lines_of
theorem sc_lines_of : FnScope ["text", "found", "lines", "k", "signs"] ["text"] (defScope (top 24)) := ⟨rfl, rfl, rfl, by decide +kernel, rfl, by decide +kernel, by decide +kernel⟩
theorem ok_lines_of (W : Wk K mg) : DefOk P w K mg base "lines_of" 3 (SpP (gx fns cls_ K) f_lines_of) := by
  obtain ⟨fd, F⟩ := W.says.def_ 9 rfl
  refine ⟨⟨_, fd, ["text"], F.ok sc_lines_of (len_P rfl) (fun cdv A outer s H vs Q E hr h => ⟨_, PSs.nox ?_, read_P h⟩), W.fun_ 24, F.kp, F.bindsN fun _ _ _ _ _ _ us hl => match us, hl with | [_], _ => rfl⟩⟩
  exact (s_cons (s_asg (e_new a_nil) (g_name (i := 1) sc_lines_of.nd (by rfl) (by first | exact Or.inl rfl | exact Or.inr rfl)))
    (s_cons (s_asg (e_mt PySem.F.plainAttrs_str PySem.F.slot_str_split PySem.F.type_str_split m_split (e_var 0) (a_cons e_str a_nil)) (g_name (i := 2) sc_lines_of.nd (by rfl) (by first | exact Or.inl rfl | exact Or.inr rfl)))
    (s_cons (s_for PassesOwn.never (by rfl) (i_range1 (by rfl) (W.free 23) (a_cons (e_callB (c_len (by rfl)) (by rfl) (W.free 12) bt_len (a_cons (e_var 2) a_nil)) a_nil)) (g_name (i := 3) sc_lines_of.nd (by rfl) (by first | exact Or.inl rfl | exact Or.inr rfl))
    (s_cons (s_asg (e_callP (ok_signs_of W) (hr.mono (by decide)) (by rfl) (a_cons (e_ix (ix_D (by rfl)) (e_mt PySem.F.plainAttrs_str PySem.F.slot_str_partition PySem.F.type_str_partition m_part (e_ix (ix_D (by rfl)) (e_var 2) (e_var 3) (fun _ _ => rfl)) (a_cons e_str a_nil)) e_int (fun _ _ => rfl)) (a_cons (e_op (o_add (by rfl)) (e_var 3) e_int) a_nil))) (g_name (i := 4) sc_lines_of.nd (by rfl) (by first | exact Or.inl rfl | exact Or.inr rfl)))
    (s_one (s_if (t_cmp o_gt (e_callB (c_len (by rfl)) (by rfl) (W.free 12) bt_len (a_cons (e_var 4) a_nil)) e_int (nomark _))
    (s_one (s_expr (e_mt PySem.F.plainAttrs_list PySem.F.slot_list_append PySem.F.type_list_append m_append (e_var 1) (a_cons (e_tup (a_cons (e_op (o_add (by rfl)) (e_var 3) e_int) (a_cons (e_var 4) a_nil))) a_nil))))
    s_nil))))
    (s_one (s_ret (e_var 1))))))
/-! Reader_init -/
def m_Reader_init : MS := (sSeq (sFldW okC "number" (mVar 0) (mVar 1)) (sSeq (sFldW okC "_signs" (mVar 0) (mVar 2)) (sFldW okC "_place" (mVar 0) (mC (.int 0)))))
def f_Reader_init := bodyM 3 3 m_Reader_init
theorem sc_Reader_init : FnScope ["self", "number", "signs"] ["self", "number", "signs"] (defScope (cls 27 0)) := ⟨rfl, rfl, rfl, by decide +kernel, rfl, by decide +kernel, by decide +kernel⟩
theorem ok_Reader_init (W : Wk K mg) : MakeOk P w K mg base "Reader" ((gx fns cls_ K).ca 0) 1 (SpM (gx fns cls_ K) f_Reader_init) := by
  obtain ⟨fd, F⟩ := W.says.def_ 10 rfl
  refine ⟨⟨_, fd, ["self", "number", "signs"], F.ok sc_Reader_init (len_M rfl) (fun cdv A outer s H vs Q E hr h => ⟨_, PSs.nox ?_, read_M h⟩), W.fun_ 26, He.mkr_ok (W.says.fact 25), F.bindsN fun _ _ _ _ _ _ us hl => match us, hl with | [_, _, _], _ => rfl⟩⟩
  exact (s_cons (s_fld (fOk W "number" (by decide)) (e_var 0) (e_var 1) rfl)
    (s_cons (s_fld (fOk W "_signs" (by decide)) (e_var 0) (e_var 2) rfl)
    (s_one (s_fld (fOk W "_place" (by decide)) (e_var 0) e_int rfl))))
/-! Reader_next_sign -/
def m_Reader_next_sign : MS := (sRet (mIf (mTest (mOp ltD (mFld okC "_place" (mVar 0)) (mCal lenL (mCons (mFld okC "_signs" (mVar 0)) mNil)))) (mOp ixD (mFld okC "_signs" (mVar 0)) (mFld okC "_place" (mVar 0))) (mTup (mCons (mC (.str "mark")) (mCons (mC (.str "")) mNil)))))
def f_Reader_next_sign := bodyM 1 1 m_Reader_next_sign
theorem sc_Reader_next_sign : FnScope ["self"] ["self"] (defScope (cls 27 1)) := ⟨rfl, rfl, rfl, by decide +kernel, rfl, by decide +kernel, by decide +kernel⟩
theorem ok_Reader_next_sign (W : Wk K mg) : MethOk P w K mg base ((gx fns cls_ K).ca 0) "next_sign" 1 (SpM (gx fns cls_ K) f_Reader_next_sign) := by
  obtain ⟨fd, F⟩ := W.says.def_ 11 rfl
  refine ⟨⟨_, fd, ["self"], F.ok sc_Reader_next_sign (len_M rfl) (fun cdv A outer s H vs Q E hr h => ⟨_, PSs.nox ?_, read_M h⟩), He.cls_ok (W.says.fact 28), He.meth_ok (W.says.fact 27), F.bindsN fun _ _ _ _ _ _ us hl => match us, hl with | [_], _ => rfl⟩⟩
  exact (s_one (s_ret (e_ifx (t_cmp o_lt (e_fld (fOk W "_place" (by decide)) (e_var 0)) (e_callB (c_len (by rfl)) (by rfl) (W.free 12) bt_len (a_cons (e_fld (fOk W "_signs" (by decide)) (e_var 0)) a_nil)) (nomark _)) (e_ix (ix_D (by rfl)) (e_fld (fOk W "_signs" (by decide)) (e_var 0)) (e_fld (fOk W "_place" (by decide)) (e_var 0)) (fun _ _ => rfl)) (e_tup (a_cons e_str (a_cons e_str a_nil))))))
/-! Reader_is_done -/
def m_Reader_is_done : MS := sNever
def f_Reader_is_done := bodyM 1 1 m_Reader_is_done
theorem sc_Reader_is_done : FnScope ["self"] ["self"] (defScope (cls 27 2)) := ⟨rfl, rfl, rfl, by decide +kernel, rfl, by decide +kernel, by decide +kernel⟩
theorem ok_Reader_is_done (W : Wk K mg) : MethOk P w K mg base ((gx fns cls_ K).ca 0) "is_done" 1 (SpM (gx fns cls_ K) f_Reader_is_done) := by
  obtain ⟨fd, F⟩ := W.says.def_ 12 rfl
  refine ⟨⟨_, fd, ["self"], F.ok sc_Reader_is_done (len_M rfl) (fun cdv A outer s H vs Q E hr h => ⟨_, PSs.nox ?_, read_M h⟩), He.cls_ok (W.says.fact 28), He.meth_ok (W.says.fact 29), F.bindsN fun _ _ _ _ _ _ us hl => match us, hl with | [_], _ => rfl⟩⟩
  exact s_nevers
/-! Reader_has -/
def m_Reader_has : MS := (sSeq (sIf (tAnd' (mTest (mOp eqD (mOp ixD (mMeth 0 "next_sign" f_Reader_next_sign (mVar 0) mNil) (mC (.int 1))) (mVar 1))) (tNot' (mTest (mMeth 0 "is_done" f_Reader_is_done (mVar 0) mNil)))) sNever sNx) (sRet (mC (.bl false))))
def f_Reader_has := bodyM 2 2 m_Reader_has
theorem sc_Reader_has : FnScope ["self", "value"] ["self", "value"] (defScope (cls 27 4)) := ⟨rfl, rfl, rfl, by decide +kernel, rfl, by decide +kernel, by decide +kernel⟩
theorem ok_Reader_has (W : Wk K mg) : MethOk P w K mg base ((gx fns cls_ K).ca 0) "has" 2 (SpM (gx fns cls_ K) f_Reader_has) := by
  obtain ⟨fd, F⟩ := W.says.def_ 13 rfl
  refine ⟨⟨_, fd, ["self", "value"], F.ok sc_Reader_has (len_M rfl) (fun cdv A outer s H vs Q E hr h => ⟨_, PSs.nox ?_, read_M h⟩), He.cls_ok (W.says.fact 28), He.meth_ok (W.says.fact 30), F.bindsN fun _ _ _ _ _ _ us hl => match us, hl with | [_, _], _ => rfl⟩⟩
  exact (s_cons (s_if (PW.pt (w_and (t_cmp (o_eq (by rfl) (room_u64 hr)) (e_ix (ix_D (by rfl)) (e_meth0 (c0 := 0) (ok_Reader_next_sign W) (hr.mono (by decide)) (e_var 0)) e_int (fun _ _ => rfl)) (e_var 1) (nomark _)) (w_one_and (t_not (t_val (e_meth0 (c0 := 0) (ok_Reader_is_done W) (hr.mono (by decide)) (e_var 0)))))))
    s_nevers
    s_nil)
    (s_one (s_ret e_bl)))
/-! is_sum -/
def m_is_sum : MS := (sSeq (sIf (tNot' (mTest (mCal isiL (mCons (mVar 0) (mCons (mC (.ty "tuple")) mNil))))) sNever sNx) (sSeq (sFor (iSeq (mVar 0)) (gNm 2) sNever) (sRet (mCal allL (mCons (mLc (iRange1 (mCons (mOp subD (mCal lenL (mCons (mVar 0) mNil)) (mC (.int 1))) mNil)) (tn1 (.nm 3) tYes' (mOp ltD (mOp ixD (mOp ixD (mVar 0) (mVar 3)) (mC (.int 0))) (mOp ixD (mOp ixD (mVar 0) (mOp addD (mVar 3) (mC (.int 1)))) (mC (.int 0))))) [3]) mNil)))))
def f_is_sum := bodyP 2 4 m_is_sum
theorem sc_is_sum : FnScope ["value", "n", "row", "k"] ["value", "n"] (defScope (top 46)) := ⟨rfl, rfl, rfl, by decide +kernel, rfl, by decide +kernel, by decide +kernel⟩
theorem ok_is_sum (W : Wk K mg) : DefOk P w K mg base "is_sum" 3 (SpP (gx fns cls_ K) f_is_sum) := by
  obtain ⟨fd, F⟩ := W.says.def_ 14 rfl
  refine ⟨⟨_, fd, ["value", "n"], F.ok sc_is_sum (len_P rfl) (fun cdv A outer s H vs Q E hr h => ⟨_, PSs.nox ?_, read_P h⟩), W.fun_ 31, F.kp, F.bindsN fun _ _ _ _ _ _ us hl => match us, hl with | [_, _], _ => rfl⟩⟩
  exact (s_cons (s_if (t_not (t_val (e_callB (c_isi (by rfl)) (by rfl) (W.free 7) bt_isinstance (a_cons (e_var 0) (a_cons (e_ty (by rfl) (W.free 13) bt_tuple) a_nil)))))
    s_nevers
    s_nil)
    (s_cons (s_for PassesOwn.never (by rfl) (i_seq (by rfl) (e_var 0)) (g_name (i := 2) sc_is_sum.nd (by rfl) (by first | exact Or.inl rfl | exact Or.inr rfl))
    s_nevers)
    (s_one (s_ret (e_callB (c_all (by rfl)) (by rfl) (W.free 18) bt_all (a_cons (e_lc (by rfl) sc_is_sum.nd (i_range1 (by rfl) (W.free 23) (a_cons (e_op (o_sub) (e_callB (c_len (by rfl)) (by rfl) (W.free 12) bt_len (a_cons (e_var 0) a_nil)) e_int) a_nil)) (blkOk_by (own := [("k", 3)]) (by kernel_rfl)) (fun _ _ _ _ _ => (tg_name (i := 3) sc_is_sum.nd rfl (by first | exact Or.inl rfl | exact Or.inr rfl))) (fun _ _ _ _ _ => ts_nil) (fun _ _ _ _ _ => (e_cmp o_lt (e_ix (ix_D (by rfl)) (e_ix (ix_D (by rfl)) (e_var 0) (e_var 3) (fun _ _ => rfl)) e_int (fun _ _ => rfl)) (e_ix (ix_D (by rfl)) (e_ix (ix_D (by rfl)) (e_var 0) (e_op (o_add (by rfl)) (e_var 3) e_int) (fun _ _ => rfl)) e_int (fun _ _ => rfl)) (nomark _))) rfl) a_nil))))))
/-! is_row -/
def m_is_row : MS := (sSeq (sIf (tOr' (tNot' (mTest (mCal isiL (mCons (mVar 0) (mCons (mC (.ty "tuple")) mNil))))) (tOr' (mTest (mOp neD (mCal lenL (mCons (mVar 0) mNil)) (mC (.int 3)))) (tNot' (mTest (mCall (callP f_is_sum) (mCons (mOp ixD (mVar 0) (mC (.int 0))) (mCons (mVar 1) mNil))))))) sNever sNx) (sRet (mAnd (mCall (callP f_is_int) (mCons (mOp ixD (mVar 0) (mC (.int 1))) mNil)) (mAnd (mChain leD leD (mUn negD (mC (.int 1))) (mOp ixD (mVar 0) (mC (.int 1))) (mC (.int 1))) (mCall (callP f_is_fraction) (mCons (mOp ixD (mVar 0) (mC (.int 2))) mNil))))))
def f_is_row := bodyP 2 2 m_is_row
theorem sc_is_row : FnScope ["value", "n"] ["value", "n"] (defScope (top 47)) := ⟨rfl, rfl, rfl, by decide +kernel, rfl, by decide +kernel, by decide +kernel⟩
theorem ok_is_row (W : Wk K mg) : DefOk P w K mg base "is_row" 4 (SpP (gx fns cls_ K) f_is_row) := by
  obtain ⟨fd, F⟩ := W.says.def_ 15 rfl
  refine ⟨⟨_, fd, ["value", "n"], F.ok sc_is_row (len_P rfl) (fun cdv A outer s H vs Q E hr h => ⟨_, PSs.nox ?_, read_P h⟩), W.fun_ 32, F.kp, F.bindsN fun _ _ _ _ _ _ us hl => match us, hl with | [_, _], _ => rfl⟩⟩
  exact (s_cons (s_if (PW.pt (w_or (t_not (t_val (e_callB (c_isi (by rfl)) (by rfl) (W.free 7) bt_isinstance (a_cons (e_var 0) (a_cons (e_ty (by rfl) (W.free 13) bt_tuple) a_nil))))) (w_or (t_cmp (o_ne (by rfl) (room_u64 hr)) (e_callB (c_len (by rfl)) (by rfl) (W.free 12) bt_len (a_cons (e_var 0) a_nil)) e_int (nomark _)) (w_one_or (t_not (t_val (e_callP (ok_is_sum W) (hr.mono (by decide)) (by rfl) (a_cons (e_ix (ix_D (by rfl)) (e_var 0) e_int (fun _ _ => rfl)) (a_cons (e_var 1) a_nil)))))))))
    s_nevers
    s_nil)
    (s_one (s_ret (e_and (e_callP (ok_is_int W) (hr.mono (by decide)) (by rfl) (a_cons (e_ix (ix_D (by rfl)) (e_var 0) e_int (fun _ _ => rfl)) a_nil)) (e_and (e_chain o_le o_le (e_un o_neg e_int) (e_ix (ix_D (by rfl)) (e_var 0) e_int (fun _ _ => rfl)) e_int) (e_one (e_callP (ok_is_fraction W) (hr.mono (by decide)) (by rfl) (a_cons (e_ix (ix_D (by rfl)) (e_var 0) e_int (fun _ _ => rfl)) a_nil))))))))
/-! is_name -/
def m_is_name : MS := (sSeq (sIf (tOr' (tNot' (mTest (mCal isiL (mCons (mVar 0) (mCons (mC (.ty "str")) mNil))))) (tNot' (mTest (mChain leD leD (mC (.int 1)) (mCal lenL (mCons (mVar 0) mNil)) (mC (.int 20)))))) sNever sNx) (sRet (mAnd (mOp inD (mOp ixD (mVar 0) (mC (.int 0))) (mC (.str "abcdefghijklmnopqrstuvwxyz"))) (mCal allL (mCons (mLc (iSeq (mVar 0)) (tn1 (.nm 1) tYes' (mOp inD (mVar 1) (mC (.str "abcdefghijklmnopqrstuvwxyz0123456789_")))) [1]) mNil)))))
def f_is_name := bodyP 1 2 m_is_name
theorem sc_is_name : FnScope ["value", "letter"] ["value"] (defScope (top 52)) := ⟨rfl, rfl, rfl, by decide +kernel, rfl, by decide +kernel, by decide +kernel⟩
theorem ok_is_name (W : Wk K mg) : DefOk P w K mg base "is_name" 1 (SpP (gx fns cls_ K) f_is_name) := by
  obtain ⟨fd, F⟩ := W.says.def_ 16 rfl
  refine ⟨⟨_, fd, ["value"], F.ok sc_is_name (len_P rfl) (fun cdv A outer s H vs Q E hr h => ⟨_, PSs.nox ?_, read_P h⟩), W.fun_ 33, F.kp, F.bindsN fun _ _ _ _ _ _ us hl => match us, hl with | [_], _ => rfl⟩⟩
  exact (s_cons (s_if (PW.pt (w_or (t_not (t_val (e_callB (c_isi (by rfl)) (by rfl) (W.free 7) bt_isinstance (a_cons (e_var 0) (a_cons (e_ty (by rfl) (W.free 16) bt_str) a_nil))))) (w_one_or (t_not (t_chain o_le o_le e_int (e_callB (c_len (by rfl)) (by rfl) (W.free 12) bt_len (a_cons (e_var 0) a_nil)) e_int)))))
    s_nevers
    s_nil)
    (s_one (s_ret (e_and (e_cmp (o_in (by rfl) (room_u hr)) (e_ix (ix_D (by rfl)) (e_var 0) e_int (fun _ _ => rfl)) (e_glo (W.glo 6)) (by with_unfolding_all rfl)) (e_one (e_callB (c_all (by rfl)) (by rfl) (W.free 18) bt_all (a_cons (e_lc (by rfl) sc_is_name.nd (i_seq (by rfl) (e_var 0)) (blkOk_by (own := [("letter", 1)]) (by kernel_rfl)) (fun _ _ _ _ _ => (tg_name (i := 1) sc_is_name.nd rfl (by first | exact Or.inl rfl | exact Or.inr rfl))) (fun _ _ _ _ _ => ts_nil) (fun _ _ _ _ _ => (e_cmp (o_in (by rfl) (room_u hr)) (e_var 1) (e_glo (W.glo 7)) (by with_unfolding_all rfl))) rfl) a_nil)))))))
/-! has_bounds -/
def m_has_bounds : MS := (sSeq (sAsg (mTup (mCons (mTup (mCons (mVar 1) (mCons (mC (.tup [.int 1, .int 1])) mNil))) mNil)) (gNm 2)) (sSeq (sAsg (mLc (iSeq (mVar 0)) (tn1 (.nm 4) (tAnd' (mTest (mOp eqD (mOp ixD (mVar 4) (mC (.int 0))) (mVar 2))) (mTest (mCall (callP f_is_whole) (mCons (mOp ixD (mVar 4) (mC (.int 2))) mNil)))) (mOp ixD (mVar 4) (mC (.int 1)))) [4]) (gNm 3)) (sRet (mAnd (mOp inD (mC (.int 1)) (mVar 3)) (mOp inD (mUn negD (mC (.int 1))) (mVar 3))))))
def f_has_bounds := bodyP 2 5 m_has_bounds
theorem sc_has_bounds : FnScope ["rows", "place", "total", "senses", "row"] ["rows", "place"] (defScope (top 53)) := ⟨rfl, rfl, rfl, by decide +kernel, rfl, by decide +kernel, by decide +kernel⟩
theorem ok_has_bounds (W : Wk K mg) : DefOk P w K mg base "has_bounds" 2 (SpP (gx fns cls_ K) f_has_bounds) := by
  obtain ⟨fd, F⟩ := W.says.def_ 17 rfl
  refine ⟨⟨_, fd, ["rows", "place"], F.ok sc_has_bounds (len_P rfl) (fun cdv A outer s H vs Q E hr h => ⟨_, PSs.nox ?_, read_P h⟩), W.fun_ 34, F.kp, F.bindsN fun _ _ _ _ _ _ us hl => match us, hl with | [_, _], _ => rfl⟩⟩
  exact (s_cons (s_asg (e_tup (a_cons (e_tup (a_cons (e_var 1) (a_cons (e_glo (W.glo 1)) a_nil))) a_nil)) (g_name (i := 2) sc_has_bounds.nd (by rfl) (by first | exact Or.inl rfl | exact Or.inr rfl)))
    (s_cons (s_setLc (i := 3) rfl sc_has_bounds.nd rfl rfl (sw_true rfl rfl rfl (by decide)) (i_seq (by rfl) (e_var 0)) (blkOk_by (own := [("row", 4)]) (by kernel_rfl)) (fun _ _ _ _ _ => (tg_name (i := 4) sc_has_bounds.nd rfl (by first | exact Or.inl rfl | exact Or.inr rfl))) (fun _ _ _ _ _ => (ts_one (PW.pt (w_and (t_cmp (o_eq (by rfl) (room_u64 hr)) (e_ix (ix_D (by rfl)) (e_var 4) e_int (fun _ _ => rfl)) (e_var 2) (nomark _)) (w_one_and (t_val (e_callP (ok_is_whole W) (hr.mono (by decide)) (by rfl) (a_cons (e_ix (ix_D (by rfl)) (e_var 4) e_int (fun _ _ => rfl)) a_nil)))))))) (fun _ _ _ _ _ => (e_ix (ix_D (by rfl)) (e_var 4) e_int (fun _ _ => rfl))) rfl)
    (s_one (s_ret (e_and (e_cmp (o_in (by rfl) (room_u hr)) e_int (e_var 3) (by with_unfolding_all rfl)) (e_one (e_cmp (o_in (by rfl) (room_u hr)) (e_un o_neg e_int) (e_var 3) (by with_unfolding_all rfl))))))))
/-! is_task -/
def m_is_task : MS := (sSeq (sIf (tOr' (tNot' (mTest (mCal isiL (mCons (mVar 0) (mCons (mC (.ty "tuple")) mNil))))) (tOr' (mTest (mOp neD (mCal lenL (mCons (mVar 0) mNil)) (mC (.int 4)))) (tNot' (mTest (mCal allL (mCons (mLc (iSeq (mVar 0)) (tn1 (.nm 8) tYes' (mCal isiL (mCons (mVar 8) (mCons (mC (.ty "tuple")) mNil)))) [8]) mNil)))))) sNever sNx) (sSeq (sAsg (mVar 0) (gTpN 4 (gCons' (gNm 1) (gCons' (gNm 2) (gCons' (gNm 3) (gCons' (gNm 4) gNil')))))) (sSeq (sAsg (mCal lenL (mCons (mVar 1) mNil)) (gNm 5)) (sSeq (sIf (tOr' (mTest (mOp gtD (mVar 5) (mC (.int 60)))) (tOr' (mTest (mOp gtD (mCal lenL (mCons (mVar 3) mNil)) (mOp mulD (mC (.int 4)) (mC (.int 60))))) (tOr' (tNot' (mTest (mCal allL (mCons (mLc (iSeq (mVar 1)) (tn1 (.nm 9) tYes' (mCall (callP f_is_name) (mCons (mVar 9) mNil))) [9]) mNil)))) (mTest (mOp neD (mCal lenL (mCons (mVar 2) mNil)) (mVar 5)))))) sNever sNx) (sSeq (sIf (tNot' (mTest (mCal allL (mCons (mLc (iRange1 (mCons (mOp subD (mVar 5) (mC (.int 1))) mNil)) (tn1 (.nm 6) tYes' (mOp ltD (mOp ixD (mVar 1) (mVar 6)) (mOp ixD (mVar 1) (mOp addD (mVar 6) (mC (.int 1)))))) [6]) mNil)))) sNever sNx) (sSeq (sIf (tNot' (mTest (mCal allL (mCons (mLc (iSeq (mVar 2)) (tn1 (.nm 7) tYes' (mAnd (mCal isiL (mCons (mVar 7) (mCons (mC (.ty "str")) mNil))) (mOp inD (mVar 7) (mTup (mCons (mC (.str "whole")) (mCons (mC (.str "free")) mNil)))))) [7]) mNil)))) sNever sNx) (sSeq (sIf (tOr' (tNot' (mTest (mCal allL (mCons (mLc (iSeq (mVar 3)) (tn1 (.nm 10) tYes' (mCall (callP f_is_row) (mCons (mVar 10) (mCons (mVar 5) mNil)))) [10]) mNil)))) (tNot' (mTest (mCall (callP f_is_sum) (mCons (mVar 4) (mCons (mVar 5) mNil)))))) sNever sNx) (sRet (mCal allL (mCons (mLc (iRange1 (mCons (mVar 5) mNil)) (tn1 (.nm 6) (mTest (mOp eqD (mOp ixD (mVar 2) (mVar 6)) (mC (.str "whole")))) (mCall (callP f_has_bounds) (mCons (mVar 3) (mCons (mVar 6) mNil)))) [6]) mNil))))))))))
def f_is_task := bodyP 1 11 m_is_task
theorem sc_is_task : FnScope ["value", "names", "kinds", "rows", "goal", "n", "k", "kind", "part", "name", "row"] ["value"] (defScope (top 54)) := ⟨rfl, rfl, rfl, by decide +kernel, rfl, by decide +kernel, by decide +kernel⟩
theorem ok_is_task (W : Wk K mg) : DefOk P w K mg base "is_task" 5 (SpP (gx fns cls_ K) f_is_task) := by
  obtain ⟨fd, F⟩ := W.says.def_ 18 rfl
  refine ⟨⟨_, fd, ["value"], F.ok sc_is_task (len_P rfl) (fun cdv A outer s H vs Q E hr h => ⟨_, PSs.nox ?_, read_P h⟩), W.fun_ 35, F.kp, F.bindsN fun _ _ _ _ _ _ us hl => match us, hl with | [_], _ => rfl⟩⟩
  exact (s_cons (s_if (PW.pt (w_or (t_not (t_val (e_callB (c_isi (by rfl)) (by rfl) (W.free 7) bt_isinstance (a_cons (e_var 0) (a_cons (e_ty (by rfl) (W.free 13) bt_tuple) a_nil))))) (w_or (t_cmp (o_ne (by rfl) (room_u64 hr)) (e_callB (c_len (by rfl)) (by rfl) (W.free 12) bt_len (a_cons (e_var 0) a_nil)) e_int (nomark _)) (w_one_or (t_not (t_val (e_callB (c_all (by rfl)) (by rfl) (W.free 18) bt_all (a_cons (e_lc (by rfl) sc_is_task.nd (i_seq (by rfl) (e_var 0)) (blkOk_by (own := [("part", 8)]) (by kernel_rfl)) (fun _ _ _ _ _ => (tg_name (i := 8) sc_is_task.nd rfl (by first | exact Or.inl rfl | exact Or.inr rfl))) (fun _ _ _ _ _ => ts_nil) (fun _ _ _ _ _ => (e_callB (c_isi (by rfl)) (by rfl) (W.free 7) bt_isinstance (a_cons (e_var 8) (a_cons (e_ty (by rfl) (W.free 13) bt_tuple) a_nil)))) rfl) a_nil))))))))
    s_nevers
    s_nil)
    (s_cons (s_asg (e_var 0) (g_tup (by rfl) (by rfl) (gs_cons (g_name (i := 1) sc_is_task.nd (by rfl) (by first | exact Or.inl rfl | exact Or.inr rfl)) (gs_cons (g_name (i := 2) sc_is_task.nd (by rfl) (by first | exact Or.inl rfl | exact Or.inr rfl)) (gs_cons (g_name (i := 3) sc_is_task.nd (by rfl) (by first | exact Or.inl rfl | exact Or.inr rfl)) (gs_cons (g_name (i := 4) sc_is_task.nd (by rfl) (by first | exact Or.inl rfl | exact Or.inr rfl)) gs_nil))))))
    (s_cons (s_asg (e_callB (c_len (by rfl)) (by rfl) (W.free 12) bt_len (a_cons (e_var 1) a_nil)) (g_name (i := 5) sc_is_task.nd (by rfl) (by first | exact Or.inl rfl | exact Or.inr rfl)))
    (s_cons (s_if (PW.pt (w_or (t_cmp o_gt (e_var 5) (e_glo (W.glo 9)) (nomark _)) (w_or (t_cmp o_gt (e_callB (c_len (by rfl)) (by rfl) (W.free 12) bt_len (a_cons (e_var 3) a_nil)) (e_op (o_mul (by rfl)) e_int (e_glo (W.glo 9))) (nomark _)) (w_or (t_not (t_val (e_callB (c_all (by rfl)) (by rfl) (W.free 18) bt_all (a_cons (e_lc (by rfl) sc_is_task.nd (i_seq (by rfl) (e_var 1)) (blkOk_by (own := [("name", 9)]) (by kernel_rfl)) (fun _ _ _ _ _ => (tg_name (i := 9) sc_is_task.nd rfl (by first | exact Or.inl rfl | exact Or.inr rfl))) (fun _ _ _ _ _ => ts_nil) (fun _ _ _ _ _ => (e_callP (ok_is_name W) (hr.mono (by decide)) (by rfl) (a_cons (e_var 9) a_nil))) rfl) a_nil)))) (w_one_or (t_cmp (o_ne (by rfl) (room_u64 hr)) (e_callB (c_len (by rfl)) (by rfl) (W.free 12) bt_len (a_cons (e_var 2) a_nil)) (e_var 5) (nomark _)))))))
    s_nevers
    s_nil)
    (s_cons (s_if (t_not (t_val (e_callB (c_all (by rfl)) (by rfl) (W.free 18) bt_all (a_cons (e_lc (by rfl) sc_is_task.nd (i_range1 (by rfl) (W.free 23) (a_cons (e_op (o_sub) (e_var 5) e_int) a_nil)) (blkOk_by (own := [("k", 6)]) (by kernel_rfl)) (fun _ _ _ _ _ => (tg_name (i := 6) sc_is_task.nd rfl (by first | exact Or.inl rfl | exact Or.inr rfl))) (fun _ _ _ _ _ => ts_nil) (fun _ _ _ _ _ => (e_cmp o_lt (e_ix (ix_D (by rfl)) (e_var 1) (e_var 6) (fun _ _ => rfl)) (e_ix (ix_D (by rfl)) (e_var 1) (e_op (o_add (by rfl)) (e_var 6) e_int) (fun _ _ => rfl)) (nomark _))) rfl) a_nil))))
    s_nevers
    s_nil)
    (s_cons (s_if (t_not (t_val (e_callB (c_all (by rfl)) (by rfl) (W.free 18) bt_all (a_cons (e_lc (by rfl) sc_is_task.nd (i_seq (by rfl) (e_var 2)) (blkOk_by (own := [("kind", 7)]) (by kernel_rfl)) (fun _ _ _ _ _ => (tg_name (i := 7) sc_is_task.nd rfl (by first | exact Or.inl rfl | exact Or.inr rfl))) (fun _ _ _ _ _ => ts_nil) (fun _ _ _ _ _ => (e_and (e_callB (c_isi (by rfl)) (by rfl) (W.free 7) bt_isinstance (a_cons (e_var 7) (a_cons (e_ty (by rfl) (W.free 16) bt_str) a_nil))) (e_one (e_cmp (o_in (by rfl) (room_u hr)) (e_var 7) (e_tup (a_cons e_str (a_cons e_str a_nil))) (by with_unfolding_all rfl))))) rfl) a_nil))))
    s_nevers
    s_nil)
    (s_cons (s_if (PW.pt (w_or (t_not (t_val (e_callB (c_all (by rfl)) (by rfl) (W.free 18) bt_all (a_cons (e_lc (by rfl) sc_is_task.nd (i_seq (by rfl) (e_var 3)) (blkOk_by (own := [("row", 10)]) (by kernel_rfl)) (fun _ _ _ _ _ => (tg_name (i := 10) sc_is_task.nd rfl (by first | exact Or.inl rfl | exact Or.inr rfl))) (fun _ _ _ _ _ => ts_nil) (fun _ _ _ _ _ => (e_callP (ok_is_row W) (hr.mono (by decide)) (by rfl) (a_cons (e_var 10) (a_cons (e_var 5) a_nil)))) rfl) a_nil)))) (w_one_or (t_not (t_val (e_callP (ok_is_sum W) (hr.mono (by decide)) (by rfl) (a_cons (e_var 4) (a_cons (e_var 5) a_nil))))))))
    s_nevers
    s_nil)
    (s_one (s_ret (e_callB (c_all (by rfl)) (by rfl) (W.free 18) bt_all (a_cons (e_lc (by rfl) sc_is_task.nd (i_range1 (by rfl) (W.free 23) (a_cons (e_var 5) a_nil)) (blkOk_by (own := [("k", 6)]) (by kernel_rfl)) (fun _ _ _ _ _ => (tg_name (i := 6) sc_is_task.nd rfl (by first | exact Or.inl rfl | exact Or.inr rfl))) (fun _ _ _ _ _ => (ts_one (t_cmp (o_eq (by rfl) (room_u64 hr)) (e_ix (ix_D (by rfl)) (e_var 2) (e_var 6) (fun _ _ => rfl)) e_str (nomark _)))) (fun _ _ _ _ _ => (e_callP (ok_has_bounds W) (hr.mono (by decide)) (by rfl) (a_cons (e_var 3) (a_cons (e_var 6) a_nil)))) rfl) a_nil)))))))))))
/-! is_parts -/
def m_is_parts : MS := (sSeq (sIf (tNot' (mTest (mCal isiL (mCons (mVar 0) (mCons (mC (.ty "tuple")) mNil))))) sNever sNx) (sSeq (sFor (iSeq (mVar 0)) (gNm 2) (sSeq (sIf (tOr' (tNot' (mTest (mCal isiL (mCons (mVar 2) (mCons (mC (.ty "tuple")) mNil))))) (tOr' (mTest (mOp neD (mCal lenL (mCons (mVar 2) mNil)) (mC (.int 2)))) (tOr' (tNot' (mTest (mCall (callP f_is_int) (mCons (mOp ixD (mVar 2) (mC (.int 0))) mNil)))) (mTest (mOp ltD (mOp ixD (mVar 2) (mC (.int 0))) (mVar 1)))))) sNever sNx) (sIf (tOr' (tNot' (mTest (mCall (callP f_is_fraction) (mCons (mOp ixD (mVar 2) (mC (.int 1))) mNil)))) (mTest (mOp eqD (mOp ixD (mVar 2) (mC (.int 1))) (mC (.tup [.int 0, .int 1]))))) sNever sNx))) (sRet (mCal allL (mCons (mLc (iRange1 (mCons (mOp subD (mCal lenL (mCons (mVar 0) mNil)) (mC (.int 1))) mNil)) (tn1 (.nm 3) tYes' (mOp ltD (mOp ixD (mOp ixD (mVar 0) (mVar 3)) (mC (.int 0))) (mOp ixD (mOp ixD (mVar 0) (mOp addD (mVar 3) (mC (.int 1)))) (mC (.int 0))))) [3]) mNil)))))
def f_is_parts := bodyP 2 4 m_is_parts
theorem sc_is_parts : FnScope ["value", "least", "part", "k"] ["value", "least"] (defScope (top 56)) := ⟨rfl, rfl, rfl, by decide +kernel, rfl, by decide +kernel, by decide +kernel⟩
theorem ok_is_parts (W : Wk K mg) : DefOk P w K mg base "is_parts" 3 (SpP (gx fns cls_ K) f_is_parts) := by
  obtain ⟨fd, F⟩ := W.says.def_ 19 rfl
  refine ⟨⟨_, fd, ["value", "least"], F.ok sc_is_parts (len_P rfl) (fun cdv A outer s H vs Q E hr h => ⟨_, PSs.nox ?_, read_P h⟩), W.fun_ 36, F.kp, F.bindsN fun _ _ _ _ _ _ us hl => match us, hl with | [_, _], _ => rfl⟩⟩
  exact (s_cons (s_if (t_not (t_val (e_callB (c_isi (by rfl)) (by rfl) (W.free 7) bt_isinstance (a_cons (e_var 0) (a_cons (e_ty (by rfl) (W.free 13) bt_tuple) a_nil)))))
    s_nevers
    s_nil)
    (s_cons (s_for PassesOwn.never (by rfl) (i_seq (by rfl) (e_var 0)) (g_name (i := 2) sc_is_parts.nd (by rfl) (by first | exact Or.inl rfl | exact Or.inr rfl))
    (s_cons (s_if (PW.pt (w_or (t_not (t_val (e_callB (c_isi (by rfl)) (by rfl) (W.free 7) bt_isinstance (a_cons (e_var 2) (a_cons (e_ty (by rfl) (W.free 13) bt_tuple) a_nil))))) (w_or (t_cmp (o_ne (by rfl) (room_u64 hr)) (e_callB (c_len (by rfl)) (by rfl) (W.free 12) bt_len (a_cons (e_var 2) a_nil)) e_int (nomark _)) (w_or (t_not (t_val (e_callP (ok_is_int W) (hr.mono (by decide)) (by rfl) (a_cons (e_ix (ix_D (by rfl)) (e_var 2) e_int (fun _ _ => rfl)) a_nil)))) (w_one_or (t_cmp o_lt (e_ix (ix_D (by rfl)) (e_var 2) e_int (fun _ _ => rfl)) (e_var 1) (nomark _)))))))
    s_nevers
    s_nil)
    (s_one (s_if (PW.pt (w_or (t_not (t_val (e_callP (ok_is_fraction W) (hr.mono (by decide)) (by rfl) (a_cons (e_ix (ix_D (by rfl)) (e_var 2) e_int (fun _ _ => rfl)) a_nil)))) (w_one_or (t_cmp (o_eq (by rfl) (room_u64 hr)) (e_ix (ix_D (by rfl)) (e_var 2) e_int (fun _ _ => rfl)) (e_glo (W.glo 0)) (nomark _)))))
    s_nevers
    s_nil))))
    (s_one (s_ret (e_callB (c_all (by rfl)) (by rfl) (W.free 18) bt_all (a_cons (e_lc (by rfl) sc_is_parts.nd (i_range1 (by rfl) (W.free 23) (a_cons (e_op (o_sub) (e_callB (c_len (by rfl)) (by rfl) (W.free 12) bt_len (a_cons (e_var 0) a_nil)) e_int) a_nil)) (blkOk_by (own := [("k", 3)]) (by kernel_rfl)) (fun _ _ _ _ _ => (tg_name (i := 3) sc_is_parts.nd rfl (by first | exact Or.inl rfl | exact Or.inr rfl))) (fun _ _ _ _ _ => ts_nil) (fun _ _ _ _ _ => (e_cmp o_lt (e_ix (ix_D (by rfl)) (e_ix (ix_D (by rfl)) (e_var 0) (e_var 3) (fun _ _ => rfl)) e_int (fun _ _ => rfl)) (e_ix (ix_D (by rfl)) (e_ix (ix_D (by rfl)) (e_var 0) (e_op (o_add (by rfl)) (e_var 3) e_int) (fun _ _ => rfl)) e_int (fun _ _ => rfl)) (nomark _))) rfl) a_nil))))))
/-! is_reason -/
def m_is_reason : MS := (sSeq (sIf (tOr' (tNot' (mTest (mCal isiL (mCons (mVar 0) (mCons (mC (.ty "tuple")) mNil))))) (tOr' (mTest (mOp eqD (mCal lenL (mCons (mVar 0) mNil)) (mC (.int 0)))) (tNot' (mTest (mCal isiL (mCons (mOp ixD (mVar 0) (mC (.int 0))) (mCons (mC (.ty "str")) mNil))))))) sNever sNx) (sSeq (sAsg (mSl slD (mVar 0) (oPart (mC (.int 1))) oNo) (gNm 2)) (sSeq (sIf (mTest (mOp inD (mOp ixD (mVar 0) (mC (.int 0))) (mTup (mCons (mC (.str "given")) (mCons (mC (.str "round")) mNil))))) sNever sNx) (sSeq (sIf (mTest (mOp eqD (mOp ixD (mVar 0) (mC (.int 0))) (mC (.str "suppose")))) sNever sNx) (sSeq (sIf (mTest (mOp eqD (mOp ixD (mVar 0) (mC (.int 0))) (mC (.str "either")))) sNever sNx) (sSeq (sIf (mTest (mOp eqD (mOp ixD (mVar 0) (mC (.int 0))) (mC (.str "sum")))) (sRet (mAnd (mOp eqD (mCal lenL (mCons (mVar 2) mNil)) (mC (.int 1))) (mCall (callP f_is_parts) (mCons (mOp ixD (mVar 2) (mC (.int 0))) (mCons (mC (.int 0)) mNil))))) sNx) sNever))))))
def f_is_reason := bodyP 2 4 m_is_reason
theorem sc_is_reason : FnScope ["value", "n", "rest", "x"] ["value", "n"] (defScope (top 57)) := ⟨rfl, rfl, rfl, by decide +kernel, rfl, by decide +kernel, by decide +kernel⟩
theorem ok_is_reason (W : Wk K mg) : DefOk P w K mg base "is_reason" 4 (SpP (gx fns cls_ K) f_is_reason) := by
  obtain ⟨fd, F⟩ := W.says.def_ 20 rfl
  refine ⟨⟨_, fd, ["value", "n"], F.ok sc_is_reason (len_P rfl) (fun cdv A outer s H vs Q E hr h => ⟨_, PSs.nox ?_, read_P h⟩), W.fun_ 37, F.kp, F.bindsN fun _ _ _ _ _ _ us hl => match us, hl with | [_, _], _ => rfl⟩⟩
  exact (s_cons (s_if (PW.pt (w_or (t_not (t_val (e_callB (c_isi (by rfl)) (by rfl) (W.free 7) bt_isinstance (a_cons (e_var 0) (a_cons (e_ty (by rfl) (W.free 13) bt_tuple) a_nil))))) (w_or (t_cmp (o_eq (by rfl) (room_u64 hr)) (e_callB (c_len (by rfl)) (by rfl) (W.free 12) bt_len (a_cons (e_var 0) a_nil)) e_int (nomark _)) (w_one_or (t_not (t_val (e_callB (c_isi (by rfl)) (by rfl) (W.free 7) bt_isinstance (a_cons (e_ix (ix_D (by rfl)) (e_var 0) e_int (fun _ _ => rfl)) (a_cons (e_ty (by rfl) (W.free 16) bt_str) a_nil)))))))))
    s_nevers
    s_nil)
    (s_cons (s_asg (e_slice (by rfl) (e_var 0) (o_part e_int) o_no) (g_name (i := 2) sc_is_reason.nd (by rfl) (by first | exact Or.inl rfl | exact Or.inr rfl)))
    (s_cons (s_if (t_cmp (o_in (by rfl) (room_u hr)) (e_ix (ix_D (by rfl)) (e_var 0) e_int (fun _ _ => rfl)) (e_tup (a_cons e_str (a_cons e_str a_nil))) (by with_unfolding_all rfl))
    s_nevers
    s_nil)
    (s_cons (s_if (t_cmp (o_eq (by rfl) (room_u64 hr)) (e_ix (ix_D (by rfl)) (e_var 0) e_int (fun _ _ => rfl)) e_str (nomark _))
    s_nevers
    s_nil)
    (s_cons (s_if (t_cmp (o_eq (by rfl) (room_u64 hr)) (e_ix (ix_D (by rfl)) (e_var 0) e_int (fun _ _ => rfl)) e_str (nomark _))
    s_nevers
    s_nil)
    (s_cons (s_if (t_cmp (o_eq (by rfl) (room_u64 hr)) (e_ix (ix_D (by rfl)) (e_var 0) e_int (fun _ _ => rfl)) e_str (nomark _))
    (s_one (s_ret (e_and (e_cmp (o_eq (by rfl) (room_u64 hr)) (e_callB (c_len (by rfl)) (by rfl) (W.free 12) bt_len (a_cons (e_var 2) a_nil)) e_int (nomark _)) (e_one (e_callP (ok_is_parts W) (hr.mono (by decide)) (by rfl) (a_cons (e_ix (ix_D (by rfl)) (e_var 2) e_int (fun _ _ => rfl)) (a_cons e_int a_nil)))))))
    s_nil)
    s_nevers))))))
/-! is_proof -/
def m_is_proof : MS := (sSeq (sIf (tNot' (mTest (mCal isiL (mCons (mVar 0) (mCons (mC (.ty "tuple")) mNil))))) sNever sNx) (sSeq (sFor (iSeq (mVar 0)) (gNm 2) (sSeq (sIf (tOr' (tNot' (mTest (mCal isiL (mCons (mVar 2) (mCons (mC (.ty "tuple")) mNil))))) (tOr' (mTest (mOp neD (mCal lenL (mCons (mVar 2) mNil)) (mC (.int 2)))) (tOr' (tNot' (mTest (mCall (callP f_is_row) (mCons (mOp ixD (mVar 2) (mC (.int 0))) (mCons (mVar 1) mNil))))) (mTest (mOp ltD (mOp ixD (mOp ixD (mVar 2) (mC (.int 0))) (mC (.int 1))) (mC (.int 0))))))) sNever sNx) (sIf (tNot' (mTest (mCall (callP f_is_reason) (mCons (mOp ixD (mVar 2) (mC (.int 1))) (mCons (mVar 1) mNil))))) (sRet (mC (.bl false))) sNx))) sNever))
def f_is_proof := bodyP 2 3 m_is_proof
theorem sc_is_proof : FnScope ["value", "n", "line"] ["value", "n"] (defScope (top 59)) := ⟨rfl, rfl, rfl, by decide +kernel, rfl, by decide +kernel, by decide +kernel⟩
theorem ok_is_proof (W : Wk K mg) : DefOk P w K mg base "is_proof" 5 (SpP (gx fns cls_ K) f_is_proof) := by
  obtain ⟨fd, F⟩ := W.says.def_ 21 rfl
  refine ⟨⟨_, fd, ["value", "n"], F.ok sc_is_proof (len_P rfl) (fun cdv A outer s H vs Q E hr h => ⟨_, PSs.nox ?_, read_P h⟩), W.fun_ 38, F.kp, F.bindsN fun _ _ _ _ _ _ us hl => match us, hl with | [_, _], _ => rfl⟩⟩
  exact (s_cons (s_if (t_not (t_val (e_callB (c_isi (by rfl)) (by rfl) (W.free 7) bt_isinstance (a_cons (e_var 0) (a_cons (e_ty (by rfl) (W.free 13) bt_tuple) a_nil)))))
    s_nevers
    s_nil)
    (s_cons (s_for PassesOwn.never (by rfl) (i_seq (by rfl) (e_var 0)) (g_name (i := 2) sc_is_proof.nd (by rfl) (by first | exact Or.inl rfl | exact Or.inr rfl))
    (s_cons (s_if (PW.pt (w_or (t_not (t_val (e_callB (c_isi (by rfl)) (by rfl) (W.free 7) bt_isinstance (a_cons (e_var 2) (a_cons (e_ty (by rfl) (W.free 13) bt_tuple) a_nil))))) (w_or (t_cmp (o_ne (by rfl) (room_u64 hr)) (e_callB (c_len (by rfl)) (by rfl) (W.free 12) bt_len (a_cons (e_var 2) a_nil)) e_int (nomark _)) (w_or (t_not (t_val (e_callP (ok_is_row W) (hr.mono (by decide)) (by rfl) (a_cons (e_ix (ix_D (by rfl)) (e_var 2) e_int (fun _ _ => rfl)) (a_cons (e_var 1) a_nil))))) (w_one_or (t_cmp o_lt (e_ix (ix_D (by rfl)) (e_ix (ix_D (by rfl)) (e_var 2) e_int (fun _ _ => rfl)) e_int (fun _ _ => rfl)) e_int (nomark _)))))))
    s_nevers
    s_nil)
    (s_one (s_if (t_not (t_val (e_callP (ok_is_reason W) (hr.mono (by decide)) (by rfl) (a_cons (e_ix (ix_D (by rfl)) (e_var 2) e_int (fun _ _ => rfl)) (a_cons (e_var 1) a_nil)))))
    (s_one (s_ret e_bl))
    s_nil))))
    s_nevers))
/-! read_sum_prooftexts -/
def m_read_sum_prooftexts : MS := (sSeq (sIf (mTest (mOp eqD (mVar 0) (mC (.str "0")))) (sRet (mTup mNil)) sNx) sNever)
def f_read_sum_prooftexts := bodyP 2 7 m_read_sum_prooftexts
theorem sc_read_sum_prooftexts : FnScope ["text", "names", "found", "part", "number", "star", "name"] ["text", "names"] (defScope (top 63)) := ⟨rfl, rfl, rfl, by decide +kernel, rfl, by decide +kernel, by decide +kernel⟩
theorem ok_read_sum_prooftexts (W : Wk K mg) : DefOk P w K mg base "read_sum_prooftexts" 4 (SpP (gx fns cls_ K) f_read_sum_prooftexts) := by
  obtain ⟨fd, F⟩ := W.says.def_ 22 rfl
  refine ⟨⟨_, fd, ["text", "names"], F.ok sc_read_sum_prooftexts (len_P rfl) (fun cdv A outer s H vs Q E hr h => ⟨_, PSs.nox ?_, read_P h⟩), W.fun_ 39, F.kp, F.bindsN fun _ _ _ _ _ _ us hl => match us, hl with | [_, _], _ => rfl⟩⟩
  exact (s_cons (s_if (t_cmp (o_eq (by rfl) (room_u64 hr)) (e_var 0) e_str (nomark _))
    (s_one (s_ret (e_tup a_nil)))
    s_nil)
    s_nevers)
/-! read_row -/
def m_read_row : MS := (sSeq (sFor (iSeq (mC (.tup [.tup [.int (-1), .str "<="], .tup [.int 0, .str "="], .tup [.int 1, .str ">="]]))) (gTpN 2 (gCons' (gNm 2) (gCons' (gNm 3) gNil'))) (sSeq (sAsg (mMt "str" partM (mVar 0) (mCons (mOp addD (mOp addD (mC (.str " ")) (mVar 3)) (mC (.str " "))) mNil)) (gTpN 3 (gCons' (gNm 4) (gCons' (gNm 5) (gCons' (gNm 6) gNil'))))) (sIf (mTest (mOp neD (mVar 5) (mC (.str "")))) (sRet (mTup (mCons (mCall (callP f_read_sum_prooftexts) (mCons (mVar 4) (mCons (mVar 1) mNil))) (mCons (mVar 2) (mCons (mCall (callP f_read_fraction) (mCons (mVar 6) mNil)) mNil))))) sNx))) sNever)
def f_read_row := bodyP 2 7 m_read_row
theorem sc_read_row : FnScope ["text", "names", "sense", "mark", "left", "found", "right"] ["text", "names"] (defScope (top 66)) := ⟨rfl, rfl, rfl, by decide +kernel, rfl, by decide +kernel, by decide +kernel⟩
theorem ok_read_row (W : Wk K mg) : DefOk P w K mg base "read_row" 5 (SpP (gx fns cls_ K) f_read_row) := by
  obtain ⟨fd, F⟩ := W.says.def_ 23 rfl
  refine ⟨⟨_, fd, ["text", "names"], F.ok sc_read_row (len_P rfl) (fun cdv A outer s H vs Q E hr h => ⟨_, PSs.nox ?_, read_P h⟩), W.fun_ 40, F.kp, F.bindsN fun _ _ _ _ _ _ us hl => match us, hl with | [_, _], _ => rfl⟩⟩
  exact (s_cons (s_for PassesOwn.never (by rfl) (i_seq (by rfl) (e_glo (W.glo 8))) (g_tup (by rfl) (by rfl) (gs_cons (g_name (i := 2) sc_read_row.nd (by rfl) (by first | exact Or.inl rfl | exact Or.inr rfl)) (gs_cons (g_name (i := 3) sc_read_row.nd (by rfl) (by first | exact Or.inl rfl | exact Or.inr rfl)) gs_nil)))
    (s_cons (s_asg (e_mt PySem.F.plainAttrs_str PySem.F.slot_str_partition PySem.F.type_str_partition m_part (e_var 0) (a_cons (e_op (o_add (by rfl)) (e_op (o_add (by rfl)) e_str (e_var 3)) e_str) a_nil)) (g_tup (by rfl) (by rfl) (gs_cons (g_name (i := 4) sc_read_row.nd (by rfl) (by first | exact Or.inl rfl | exact Or.inr rfl)) (gs_cons (g_name (i := 5) sc_read_row.nd (by rfl) (by first | exact Or.inl rfl | exact Or.inr rfl)) (gs_cons (g_name (i := 6) sc_read_row.nd (by rfl) (by first | exact Or.inl rfl | exact Or.inr rfl)) gs_nil)))))
    (s_one (s_if (t_cmp (o_ne (by rfl) (room_u64 hr)) (e_var 5) e_str (nomark _))
    (s_one (s_ret (e_tup (a_cons (e_callP (ok_read_sum_prooftexts W) (hr.mono (by decide)) (by rfl) (a_cons (e_var 4) (a_cons (e_var 1) a_nil))) (a_cons (e_var 2) (a_cons (e_callP (ok_read_fraction W) (hr.mono (by decide)) (by rfl) (a_cons (e_var 6) a_nil)) a_nil))))))
    s_nil))))
    s_nevers)
/-! read_place -/
def m_read_place : MS := (sRet (mIf (mTest (mOp eqD (mVar 0) (mC (.str "-1")))) (mUn negD (mC (.int 1))) (mCall (callP f_read_digits) (mCons (mVar 0) mNil))))
def f_read_place := bodyP 1 1 m_read_place
theorem sc_read_place : FnScope ["text"] ["text"] (defScope (top 69)) := ⟨rfl, rfl, rfl, by decide +kernel, rfl, by decide +kernel, by decide +kernel⟩
theorem ok_read_place (W : Wk K mg) : DefOk P w K mg base "read_place" 2 (SpP (gx fns cls_ K) f_read_place) := by
  obtain ⟨fd, F⟩ := W.says.def_ 24 rfl
  refine ⟨⟨_, fd, ["text"], F.ok sc_read_place (len_P rfl) (fun cdv A outer s H vs Q E hr h => ⟨_, PSs.nox ?_, read_P h⟩), W.fun_ 41, F.kp, F.bindsN fun _ _ _ _ _ _ us hl => match us, hl with | [_], _ => rfl⟩⟩
  exact (s_one (s_ret (e_ifx (t_cmp (o_eq (by rfl) (room_u64 hr)) (e_var 0) e_str (nomark _)) (e_un o_neg e_int) (e_callP (ok_read_digits W) (hr.mono (by decide)) (by rfl) (a_cons (e_var 0) a_nil)))))
/-! read_parts -/
def m_read_parts : MS := (sSeq (sIf (mTest (mOp eqD (mVar 0) (mC (.str "-")))) sNever sNx) (sSeq (sAsg (mNew mNil) (gNm 1)) (sSeq (sFor (iSeq (mMt "str" splitM (mVar 0) (mCons (mC (.str " ")) mNil))) (gNm 2) (sSeq (sAsg (mMt "str" partM (mVar 2) (mCons (mC (.str ":")) mNil)) (gTpN 3 (gCons' (gNm 3) (gCons' (gNm 4) (gCons' (gNm 5) gNil'))))) (sSeq (sIf (mTest (mOp eqD (mVar 4) (mC (.str "")))) sNever sNx) (sExp (mMt "list" appendM (mVar 1) (mCons (mTup (mCons (mCall (callP f_read_place) (mCons (mVar 3) mNil)) (mCons (mCall (callP f_read_fraction) (mCons (mVar 5) mNil)) mNil))) mNil)))))) (sRet (mCal tupleL (mCons (mVar 1) mNil))))))
def f_read_parts := bodyP 1 6 m_read_parts
theorem sc_read_parts : FnScope ["text", "found", "part", "place", "colon", "weight"] ["text"] (defScope (top 68)) := ⟨rfl, rfl, rfl, by decide +kernel, rfl, by decide +kernel, by decide +kernel⟩
theorem ok_read_parts (W : Wk K mg) : DefOk P w K mg base "read_parts" 4 (SpP (gx fns cls_ K) f_read_parts) := by
  obtain ⟨fd, F⟩ := W.says.def_ 25 rfl
  refine ⟨⟨_, fd, ["text"], F.ok sc_read_parts (len_P rfl) (fun cdv A outer s H vs Q E hr h => ⟨_, PSs.nox ?_, read_P h⟩), W.fun_ 42, F.kp, F.bindsN fun _ _ _ _ _ _ us hl => match us, hl with | [_], _ => rfl⟩⟩
  exact (s_cons (s_if (t_cmp (o_eq (by rfl) (room_u64 hr)) (e_var 0) e_str (nomark _))
    s_nevers
    s_nil)
    (s_cons (s_asg (e_new a_nil) (g_name (i := 1) sc_read_parts.nd (by rfl) (by first | exact Or.inl rfl | exact Or.inr rfl)))
    (s_cons (s_for PassesOwn.never (by rfl) (i_seq (by rfl) (e_mt PySem.F.plainAttrs_str PySem.F.slot_str_split PySem.F.type_str_split m_split (e_var 0) (a_cons e_str a_nil))) (g_name (i := 2) sc_read_parts.nd (by rfl) (by first | exact Or.inl rfl | exact Or.inr rfl))
    (s_cons (s_asg (e_mt PySem.F.plainAttrs_str PySem.F.slot_str_partition PySem.F.type_str_partition m_part (e_var 2) (a_cons e_str a_nil)) (g_tup (by rfl) (by rfl) (gs_cons (g_name (i := 3) sc_read_parts.nd (by rfl) (by first | exact Or.inl rfl | exact Or.inr rfl)) (gs_cons (g_name (i := 4) sc_read_parts.nd (by rfl) (by first | exact Or.inl rfl | exact Or.inr rfl)) (gs_cons (g_name (i := 5) sc_read_parts.nd (by rfl) (by first | exact Or.inl rfl | exact Or.inr rfl)) gs_nil)))))
    (s_cons (s_if (t_cmp (o_eq (by rfl) (room_u64 hr)) (e_var 4) e_str (nomark _))
    s_nevers
    s_nil)
    (s_one (s_expr (e_mt PySem.F.plainAttrs_list PySem.F.slot_list_append PySem.F.type_list_append m_append (e_var 1) (a_cons (e_tup (a_cons (e_callP (ok_read_place W) (hr.mono (by decide)) (by rfl) (a_cons (e_var 3) a_nil)) (a_cons (e_callP (ok_read_fraction W) (hr.mono (by decide)) (by rfl) (a_cons (e_var 5) a_nil)) a_nil))) a_nil)))))))
    (s_one (s_ret (e_callTy (c_tuple (by rfl)) (by rfl) (W.free 13) bt_tuple (a_cons (e_var 1) a_nil)))))))
/-! read_reason -/
def m_read_reason : MS := (sSeq (sAsg (mMt "str" partM (mVar 0) (mCons (mC (.str " ")) mNil)) (gTpN 3 (gCons' (gNm 2) (gCons' (gNm 3) (gCons' (gNm 4) gNil'))))) (sSeq (sIf (mTest (mOp eqD (mVar 2) (mC (.str "sum")))) (sRet (mTup (mCons (mC (.str "sum")) (mCons (mCall (callP f_read_parts) (mCons (mVar 4) mNil)) mNil)))) sNx) sNever))
def f_read_reason := bodyP 2 6 m_read_reason
theorem sc_read_reason : FnScope ["text", "names", "word", "_", "rest", "x"] ["text", "names"] (defScope (top 73)) := ⟨rfl, rfl, rfl, by decide +kernel, rfl, by decide +kernel, by decide +kernel⟩
theorem ok_read_reason (W : Wk K mg) : DefOk P w K mg base "read_reason" 5 (SpP (gx fns cls_ K) f_read_reason) := by
  obtain ⟨fd, F⟩ := W.says.def_ 26 rfl
  refine ⟨⟨_, fd, ["text", "names"], F.ok sc_read_reason (len_P rfl) (fun cdv A outer s H vs Q E hr h => ⟨_, PSs.nox ?_, read_P h⟩), W.fun_ 43, F.kp, F.bindsN fun _ _ _ _ _ _ us hl => match us, hl with | [_, _], _ => rfl⟩⟩
  exact (s_cons (s_asg (e_mt PySem.F.plainAttrs_str PySem.F.slot_str_partition PySem.F.type_str_partition m_part (e_var 0) (a_cons e_str a_nil)) (g_tup (by rfl) (by rfl) (gs_cons (g_name (i := 2) sc_read_reason.nd (by rfl) (by first | exact Or.inl rfl | exact Or.inr rfl)) (gs_cons (g_name (i := 3) sc_read_reason.nd (by rfl) (by first | exact Or.inl rfl | exact Or.inr rfl)) (gs_cons (g_name (i := 4) sc_read_reason.nd (by rfl) (by first | exact Or.inl rfl | exact Or.inr rfl)) gs_nil)))))
    (s_cons (s_if (t_cmp (o_eq (by rfl) (room_u64 hr)) (e_var 2) e_str (nomark _))
    (s_one (s_ret (e_tup (a_cons e_str (a_cons (e_callP (ok_read_parts W) (hr.mono (by decide)) (by rfl) (a_cons (e_var 4) a_nil)) a_nil)))))
    s_nil)
    s_nevers))
/-! _law_cell -/
def m__law_cell : MS := (sSeq (sIf (mTest (mOp ltD (mVar 1) (mCal lenL (mCons (mVar 0) mNil)))) (sRet (mOp ixD (mVar 0) (mVar 1))) sNx) (sRet (mC (.int 0))))
def f__law_cell := bodyP 2 2 m__law_cell
theorem sc__law_cell : FnScope ["script", "k"] ["script", "k"] (defScope (top 80)) := ⟨rfl, rfl, rfl, by decide +kernel, rfl, by decide +kernel, by decide +kernel⟩
theorem ok__law_cell (W : Wk K mg) : DefOk P w K mg base "_law_cell" 1 (SpP (gx fns cls_ K) f__law_cell) := by
  obtain ⟨fd, F⟩ := W.says.def_ 27 rfl
  refine ⟨⟨_, fd, ["script", "k"], F.ok sc__law_cell (len_P rfl) (fun cdv A outer s H vs Q E hr h => ⟨_, PSs.nox ?_, read_P h⟩), W.fun_ 44, F.kp, F.bindsN fun _ _ _ _ _ _ us hl => match us, hl with | [_, _], _ => rfl⟩⟩
  exact (s_cons (s_if (t_cmp o_lt (e_var 1) (e_callB (c_len (by rfl)) (by rfl) (W.free 12) bt_len (a_cons (e_var 0) a_nil)) (nomark _))
    (s_one (s_ret (e_ix (ix_D (by rfl)) (e_var 0) (e_var 1) (fun _ _ => rfl))))
    s_nil)
    (s_one (s_ret e_int)))
/-! _law_kind -/
def m__law_kind : MS := (sSeq (sIf (mTest (mCal isiL (mCons (mVar 0) (mCons (mC (.ty "bool")) mNil)))) sNever sNx) (sSeq (sIf (mTest (mCal isiL (mCons (mVar 0) (mCons (mC (.ty "int")) mNil)))) (sRet (mC (.int 2))) sNx) (sSeq (sIf (mTest (mCal isiL (mCons (mVar 0) (mCons (mC (.ty "str")) mNil)))) sNever sNx) (sSeq (sIf (mTest (mCal isiL (mCons (mVar 0) (mCons (mC (.ty "tuple")) mNil)))) sNever sNx) (sSeq (sIf (mTest (mCal isiL (mCons (mVar 0) (mCons (mC (.ty "list")) mNil)))) (sRet (mC (.int 5))) sNx) sNever)))))
def f__law_kind := bodyP 1 1 m__law_kind
theorem sc__law_kind : FnScope ["x"] ["x"] (defScope (top 81)) := ⟨rfl, rfl, rfl, by decide +kernel, rfl, by decide +kernel, by decide +kernel⟩
theorem ok__law_kind (W : Wk K mg) : DefOk P w K mg base "_law_kind" 1 (SpP (gx fns cls_ K) f__law_kind) := by
  obtain ⟨fd, F⟩ := W.says.def_ 28 rfl
  refine ⟨⟨_, fd, ["x"], F.ok sc__law_kind (len_P rfl) (fun cdv A outer s H vs Q E hr h => ⟨_, PSs.nox ?_, read_P h⟩), W.fun_ 46, F.kp, F.bindsN fun _ _ _ _ _ _ us hl => match us, hl with | [_], _ => rfl⟩⟩
  exact (s_cons (s_if (t_val (e_callB (c_isi (by rfl)) (by rfl) (W.free 7) bt_isinstance (a_cons (e_var 0) (a_cons (e_ty (by rfl) (W.free 6) bt_bool) a_nil))))
    s_nevers
    s_nil)
    (s_cons (s_if (t_val (e_callB (c_isi (by rfl)) (by rfl) (W.free 7) bt_isinstance (a_cons (e_var 0) (a_cons (e_ty (by rfl) (W.free 8) bt_int) a_nil))))
    (s_one (s_ret e_int))
    s_nil)
    (s_cons (s_if (t_val (e_callB (c_isi (by rfl)) (by rfl) (W.free 7) bt_isinstance (a_cons (e_var 0) (a_cons (e_ty (by rfl) (W.free 16) bt_str) a_nil))))
    s_nevers
    s_nil)
    (s_cons (s_if (t_val (e_callB (c_isi (by rfl)) (by rfl) (W.free 7) bt_isinstance (a_cons (e_var 0) (a_cons (e_ty (by rfl) (W.free 13) bt_tuple) a_nil))))
    s_nevers
    s_nil)
    (s_cons (s_if (t_val (e_callB (c_isi (by rfl)) (by rfl) (W.free 7) bt_isinstance (a_cons (e_var 0) (a_cons (e_ty (by rfl) (W.free 45) bt_list) a_nil))))
    (s_one (s_ret e_int))
    s_nil)
    s_nevers)))))
def m_BadModel : ME := (mOp addD (mOp addD (mOp addD (mC (.str "line ")) (mCal strL (mCons (mVar 1) mNil))) (mC (.str ": "))) (mVar 2))
theorem sc_BadModel : FnScope ["self", "line", "what"] ["self", "line", "what"] (defScope (cls 3 0)) := ⟨rfl, rfl, rfl, by decide +kernel, rfl, by decide +kernel, by decide +kernel⟩
theorem ok_BadModel (W : Wk K mg) : MkOk P w K mg base "BadModel" ((gx fns cls_ K).ca 2) 1 "line" "what" m_BadModel := by
  have X := exB_ok W.xb
  obtain ⟨fd, F⟩ := W.says.def_ 29 rfl
  refine ⟨⟨_, fd, ["self", "line", "what"], F.ok sc_BadModel (len_I rfl) (fun cdv A outer s H vs Q E hr h => ⟨tInit (gx fns cls_ K) K "line" "what" m_BadModel, PSs.nox ?_, read_I (fun _ => trivial) rfl X.own X.line X.what h⟩), W.fun_ 48, X.ini, X.fun_, F.bindsN fun _ _ _ _ _ _ us hl => match us, hl with | [_, _, _], _ => rfl⟩, X.own⟩
  exact pss_cons (ps_expr (pe_beinit (by rfl) (W.fun_ 47) X.base (pa_cons (pv 0) (pa_cons (e_op (o_add (by rfl)) (e_op (o_add (by rfl)) (e_op (o_add (by rfl)) e_str (e_callTy c_str (by rfl) (W.free 16) bt_str (a_cons (e_var 1) a_nil))) e_str) (e_var 2)) pa_nil)))) (pss_cons (ps_ost (pv 0) (pv 1)) (pss_one (ps_ost (pv 0) (pv 2))))
/-! read_digits_x -/
def m_read_digits_x : MX := (xIf (tOr' (mTest (mOp eqD (mVar 0) (mC (.str "")))) (tOr' (mTest (mOp gtD (mCal lenL (mCons (mVar 0) mNil)) (mC (.int 40)))) (tNot' (mTest (mCal allL (mCons (mLc (iSeq (mVar 0)) (tn1 (.nm 1) tYes' (mOp inD (mVar 1) (mC (.str "0123456789")))) [1]) mNil)))))) (xOf (eMk (mCons (mVar 0) mNil) 1)) xNever)
def f_read_digits_x := bodyX 1 2 m_read_digits_x
theorem sc_read_digits_x : FnScope ["text", "sign_"] ["text"] (defScope (top 17)) := ⟨rfl, rfl, rfl, by decide +kernel, rfl, by decide +kernel, by decide +kernel⟩
theorem ok_read_digits_x (W : Wk K mg) : DefX P w K mg base "read_digits" 1 (SpX (gx fns cls_ K) f_read_digits_x) := by
  obtain ⟨fd, F⟩ := W.says.def_ 30 rfl
  refine ⟨⟨_, fd, ["text"], F.ok (CX := L2N.CX P w) sc_read_digits_x (len_X rfl) (fun cdv A outer s H vs Q E hr h => ⟨_, ?_, read_X h⟩), W.fun_ 19, F.kp, F.bindsN fun _ _ _ _ _ _ us hl => match us, hl with | [_], _ => rfl⟩⟩
  exact (have tk : L2N.Takes _ (WXE E) := L2N.takes_of rfl rfl rfl rfl; (x_here (x_if (PW.pt (w_or (t_cmp (o_eq (by rfl) (room_u64 hr)) (e_var 0) e_str (nomark _)) (w_or (t_cmp o_gt (e_callB (c_len (by rfl)) (by rfl) (W.free 12) bt_len (a_cons (e_var 0) a_nil)) e_int (nomark _)) (w_one_or (t_not (t_val (e_callB (c_all (by rfl)) (by rfl) (W.free 18) bt_all (a_cons (e_lc (by rfl) sc_read_digits_x.nd (i_seq (by rfl) (e_var 0)) (blkOk_by (own := [("sign_", 1)]) (by kernel_rfl)) (fun _ _ _ _ _ => (tg_name (i := 1) sc_read_digits_x.nd rfl (by first | exact Or.inl rfl | exact Or.inr rfl))) (fun _ _ _ _ _ => ts_nil) (fun _ _ _ _ _ => (e_cmp (o_in (by rfl) (room_u hr)) (e_var 1) (e_glo (W.glo 2)) (by with_unfolding_all rfl))) rfl) a_nil))))))))
    (x_here (x_raise (cn := 1) (bmB := He.veBase) (by rfl) tk PySem.F.excBase_ValueError (He.exc_ok (W.says.fact 0)).1 (W.fun_ 1) (He.exc_ok (W.says.fact 0)).2.1 (raises_own (He.exc_ok (W.says.fact 0)).2.2.1 (He.exc_ok (W.says.fact 0)).2.2.2) (by rfl) (a_cons (e_var 0) a_nil)))
    x_nevers)))
/-! Reader_refuse -/
def m_Reader_refuse : MX := (xOf (eMkO m_BadModel "line" "what" (mCons (mFld okC "number" (mVar 0)) (mCons (mVar 1) mNil)) 2))
def f_Reader_refuse := bodyXM 2 2 m_Reader_refuse
theorem sc_Reader_refuse : FnScope ["self", "what"] ["self", "what"] (defScope (cls 27 3)) := ⟨rfl, rfl, rfl, by decide +kernel, rfl, by decide +kernel, by decide +kernel⟩
theorem ok_Reader_refuse (W : Wk K mg) : MethX P w K mg base ((gx fns cls_ K).ca 0) "refuse" 3 (SpXM (gx fns cls_ K) f_Reader_refuse) := by
  obtain ⟨fd, F⟩ := W.says.def_ 31 rfl
  refine ⟨⟨_, fd, ["self", "what"], F.ok (CX := L2N.CX P w) sc_Reader_refuse (len_XM rfl) (fun cdv A outer s H vs Q E hr h => ⟨_, ?_, read_XM h⟩), He.cls_ok (W.says.fact 28), He.meth_ok (W.says.fact 49), F.bindsN fun _ _ _ _ _ _ us hl => match us, hl with | [_, _], _ => rfl⟩⟩
  exact (have tk : L2N.Takes _ (WXE E) := L2N.takes_of rfl rfl rfl rfl; (x_here (x_raiseO (by rfl) tk (ok_BadModel W) (hr.mono (by decide)) (by rfl) (a_cons (e_fld (fOk W "number" (by decide)) (e_var 0)) (a_cons (e_var 1) a_nil)))))
/-! statement -/
def m_statement : MX := (xSkip (sAsg (mTup (mCons (mTup (mCons (mC (.str "set")) (mCons (mC (.fn 0)) mNil))) (mCons (mTup (mCons (mC (.str "number")) (mCons (mC (.fn 1)) mNil))) (mCons (mTup (mCons (mC (.str "row")) (mCons (mC (.fn 2)) mNil))) (mCons (mTup (mCons (mC (.str "least")) (mCons (mC (.fn 3)) mNil))) (mCons (mTup (mCons (mC (.str "most")) (mCons (mC (.fn 3)) mNil))) mNil)))))) (gNm 1)) (xSkip (sFor (iSeq (mVar 1)) (gTpN 2 (gCons' (gNm 2) (gCons' (gNm 3) gNil'))) (sIf (mTest (mMeth 0 "has" f_Reader_has (mVar 0) (mCons (mVar 2) mNil))) sNever sNx)) (xSkip (sFor (iSeq (mTup (mCons (mC (.str "whole")) (mCons (mC (.str "free")) mNil)))) (gNm 2) (sIf (mTest (mMeth 0 "has" f_Reader_has (mVar 0) (mCons (mVar 2) mNil))) sNever sNx)) (xOf (xMeth 0 "refuse" f_Reader_refuse (mVar 0) (mCons (mC (.str "expected a statement")) mNil))))))
def f_statement := bodyXM 1 4 m_statement
theorem sc_statement : FnScope ["reader", "rules", "word", "rule"] ["reader"] (defScope (top 32)) := ⟨rfl, rfl, rfl, by decide +kernel, rfl, by decide +kernel, by decide +kernel⟩
theorem ok_statement (W : Wk K mg) : DefX P w K mg base "statement" 4 (SpXM (gx fns cls_ K) f_statement) := by
  obtain ⟨fd, F⟩ := W.says.def_ 32 rfl
  refine ⟨⟨_, fd, ["reader"], F.ok (CX := L2N.CX P w) sc_statement (len_XM rfl) (fun cdv A outer s H vs Q E hr h => ⟨_, ?_, read_XM h⟩), W.fun_ 50, F.kp, F.bindsN fun _ _ _ _ _ _ us hl => match us, hl with | [_], _ => rfl⟩⟩
  exact (have tk : L2N.Takes _ (WXE E) := L2N.takes_of rfl rfl rfl rfl; (x_skip (s_asg (e_tup (a_cons (e_tup (a_cons e_str (a_cons (e_glo (W.glo 10)) a_nil))) (a_cons (e_tup (a_cons e_str (a_cons (e_glo (W.glo 11)) a_nil))) (a_cons (e_tup (a_cons e_str (a_cons (e_glo (W.glo 12)) a_nil))) (a_cons (e_tup (a_cons e_str (a_cons (e_glo (W.glo 13)) a_nil))) (a_cons (e_tup (a_cons e_str (a_cons (e_glo (W.glo 13)) a_nil))) a_nil)))))) (g_name (i := 1) sc_statement.nd (by rfl) (by first | exact Or.inl rfl | exact Or.inr rfl)))
    (x_skip (s_for (passes_of rfl) (by rfl) (i_seq (by rfl) (e_var 1)) (g_tup (by rfl) (by rfl) (gs_cons (g_name (i := 2) sc_statement.nd (by rfl) (by first | exact Or.inl rfl | exact Or.inr rfl)) (gs_cons (g_name (i := 3) sc_statement.nd (by rfl) (by first | exact Or.inl rfl | exact Or.inr rfl)) gs_nil)))
    (s_one (s_if (t_val (e_meth (c0 := 0) (ok_Reader_has W) (hr.mono (by decide)) (e_var 0) (a_cons (e_var 2) a_nil)))
    s_nevers
    s_nil)))
    (x_skip (s_for (passes_of rfl) (by rfl) (i_seq (by rfl) (e_tup (a_cons e_str (a_cons e_str a_nil)))) (g_name (i := 2) sc_statement.nd (by rfl) (by first | exact Or.inl rfl | exact Or.inr rfl))
    (s_one (s_if (t_val (e_meth (c0 := 0) (ok_Reader_has W) (hr.mono (by decide)) (e_var 0) (a_cons (e_var 2) a_nil)))
    s_nevers
    s_nil)))
    (x_here (x_ret (x_meth (c0 := 0) (ok_Reader_refuse W) tk (hr.mono (by decide)) (e_var 0) (a_cons e_str a_nil))))))))
/-! parse -/
def m_parse : MX := (xSkip (sIf (mTest (mOp gtD (mCal lenL (mCons (mVar 0) mNil)) (mC (.int 20000)))) sNever sNx) (xSkip (sAsg (mNew mNil) (gNm 1)) (xFor (iSeq (mCall (callP f_lines_of) (mCons (mVar 0) mNil))) (gTpN 2 (gCons' (gNm 2) (gCons' (gNm 3) gNil'))) (xSkip (sAsg (mMake 0 f_Reader_init (mCons (mVar 2) (mCons (mVar 3) mNil))) (gNm 4)) (xOf (xMt1 "list" (mVar 1) (xCallM f_statement (mCons (mVar 4) mNil))))))))
def f_parse := bodyX 1 5 m_parse
theorem sc_parse : FnScope ["text", "found", "number", "signs", "reader"] ["text"] (defScope (top 31)) := ⟨rfl, rfl, rfl, by decide +kernel, rfl, by decide +kernel, by decide +kernel⟩
theorem ok_parse (W : Wk K mg) : DefX P w K mg base "parse" 5 (SpX (gx fns cls_ K) f_parse) := by
  obtain ⟨fd, F⟩ := W.says.def_ 33 rfl
  refine ⟨⟨_, fd, ["text"], F.ok (CX := L2N.CX P w) sc_parse (len_X rfl) (fun cdv A outer s H vs Q E hr h => ⟨_, ?_, read_X h⟩), W.fun_ 51, F.kp, F.bindsN fun _ _ _ _ _ _ us hl => match us, hl with | [_], _ => rfl⟩⟩
  exact (have tk : L2N.Takes _ (WXE E) := L2N.takes_of rfl rfl rfl rfl; (x_skip (s_if (t_cmp o_gt (e_callB (c_len (by rfl)) (by rfl) (W.free 12) bt_len (a_cons (e_var 0) a_nil)) e_int (nomark _))
    s_nevers
    s_nil)
    (x_skip (s_asg (e_new a_nil) (g_name (i := 1) sc_parse.nd (by rfl) (by first | exact Or.inl rfl | exact Or.inr rfl)))
    (x_here (x_for (passes_of rfl) (by rfl) (i_seq (by rfl) (e_callP (ok_lines_of W) (hr.mono (by decide)) (by rfl) (a_cons (e_var 0) a_nil))) (g_tup (by rfl) (by rfl) (gs_cons (g_name (i := 2) sc_parse.nd (by rfl) (by first | exact Or.inl rfl | exact Or.inr rfl)) (gs_cons (g_name (i := 3) sc_parse.nd (by rfl) (by first | exact Or.inl rfl | exact Or.inr rfl)) gs_nil)))
    (x_skip (s_asg (e_make (c0 := 0) (ok_Reader_init W) (hr.mono (by decide)) (by rfl) (a_cons (e_var 2) (a_cons (e_var 3) a_nil))) (g_name (i := 4) sc_parse.nd (by rfl) (by first | exact Or.inl rfl | exact Or.inr rfl)))
    (x_here (x_expr (x_mt1 PySem.F.plainAttrs_list PySem.F.slot_list_append PySem.F.type_list_append m_append (e_var 1) (x_callM (ok_statement W) tk (hr.mono (by decide)) (by rfl) (a_cons (e_var 4) a_nil)))))))))))
/-! read_task -/
def m_read_task : MX := (xSkip (sAsg (mMt "str" splitM (mVar 0) (mCons (mC (.str "\n")) mNil)) (gNm 1)) (xSkip (sIf (tOr' (mTest (mOp ltD (mCal lenL (mCons (mVar 1) mNil)) (mC (.int 3)))) (tOr' (mTest (mOp neD (mOp ixD (mVar 1) (mUn negD (mC (.int 1)))) (mC (.str "")))) (tNot' (mTest (mMt "str" startM (mOp ixD (mVar 1) (mC (.int 1))) (mCons (mC (.str "least ")) mNil)))))) sNever sNx) (xSkip (sAsg (mIf (mTest (mOp neD (mOp ixD (mVar 1) (mC (.int 0))) (mC (.str "-")))) (mLc (iSeq (mMt "str" splitM (mOp ixD (mVar 1) (mC (.int 0))) (mCons (mC (.str " ")) mNil))) (tn1 (.nm 6) tYes' (mMt "str" partM (mVar 6) (mCons (mC (.str ":")) mNil))) [6]) (mLst mNil)) (gNm 2)) (xSkip (sAsg (mCal tupleL (mCons (mLc (iSeq (mVar 2)) (tn1 (.tp [(.nm 7), (.nm 7), (.nm 8)]) tYes' (mVar 8)) [7, 8]) mNil)) (gNm 3)) (xSkip (sAsg (mCal tupleL (mCons (mLc (iSeq (mSl slD (mVar 1) (oPart (mC (.int 2))) (oPart (mUn negD (mC (.int 1)))))) (tn1 (.nm 9) tYes' (mCall (callP f_read_row) (mCons (mVar 9) (mCons (mVar 3) mNil)))) [9]) mNil)) (gNm 4)) (xSkip (sAsg (mTup (mCons (mVar 3) (mCons (mCal tupleL (mCons (mLc (iSeq (mVar 2)) (tn1 (.tp [(.nm 10), (.nm 7), (.nm 7)]) tYes' (mVar 10)) [10, 7]) mNil)) (mCons (mVar 4) (mCons (mCall (callP f_read_sum_prooftexts) (mCons (mSl slD (mOp ixD (mVar 1) (mC (.int 1))) (oPart (mC (.int 6))) oNo) (mCons (mVar 3) mNil))) mNil))))) (gNm 5)) (xIf (tOr' (tNot' (mTest (mCall (callP f_is_task) (mCons (mVar 5) mNil)))) (fun _ _ => none)) (xOf (eMk (mCons (mVar 0) mNil) 3)) xNever)))))))
def f_read_task := bodyX 1 11 m_read_task
theorem sc_read_task : FnScope ["text", "lines", "pairs", "names", "rows", "task", "part", "_", "name", "line", "kind"] ["text"] (defScope (top 78)) := ⟨rfl, rfl, rfl, by decide +kernel, rfl, by decide +kernel, by decide +kernel⟩
theorem ok_read_task (W : Wk K mg) : DefX P w K mg base "read_task" 6 (SpX (gx fns cls_ K) f_read_task) := by
  obtain ⟨fd, F⟩ := W.says.def_ 34 rfl
  refine ⟨⟨_, fd, ["text"], F.ok (CX := L2N.CX P w) sc_read_task (len_X rfl) (fun cdv A outer s H vs Q E hr h => ⟨_, ?_, read_X h⟩), W.fun_ 52, F.kp, F.bindsN fun _ _ _ _ _ _ us hl => match us, hl with | [_], _ => rfl⟩⟩
  exact (have tk : L2N.Takes _ (WXE E) := L2N.takes_of rfl rfl rfl rfl; (x_skip (s_asg (e_mt PySem.F.plainAttrs_str PySem.F.slot_str_split PySem.F.type_str_split m_split (e_var 0) (a_cons e_str a_nil)) (g_name (i := 1) sc_read_task.nd (by rfl) (by first | exact Or.inl rfl | exact Or.inr rfl)))
    (x_skip (s_if (PW.pt (w_or (t_cmp o_lt (e_callB (c_len (by rfl)) (by rfl) (W.free 12) bt_len (a_cons (e_var 1) a_nil)) e_int (nomark _)) (w_or (t_cmp (o_ne (by rfl) (room_u64 hr)) (e_ix (ix_D (by rfl)) (e_var 1) (e_un o_neg e_int) (fun _ _ => rfl)) e_str (nomark _)) (w_one_or (t_not (t_val (e_mt PySem.F.plainAttrs_str PySem.F.slot_str_startswith PySem.F.type_str_startswith m_start (e_ix (ix_D (by rfl)) (e_var 1) e_int (fun _ _ => rfl)) (a_cons e_str a_nil))))))))
    s_nevers
    s_nil)
    (x_skip (s_asg (e_ifx (t_cmp (o_ne (by rfl) (room_u64 hr)) (e_ix (ix_D (by rfl)) (e_var 1) e_int (fun _ _ => rfl)) e_str (nomark _)) (e_lc (by rfl) sc_read_task.nd (i_seq (by rfl) (e_mt PySem.F.plainAttrs_str PySem.F.slot_str_split PySem.F.type_str_split m_split (e_ix (ix_D (by rfl)) (e_var 1) e_int (fun _ _ => rfl)) (a_cons e_str a_nil))) (blkOk_by (own := [("part", 6)]) (by kernel_rfl)) (fun _ _ _ _ _ => (tg_name (i := 6) sc_read_task.nd rfl (by first | exact Or.inl rfl | exact Or.inr rfl))) (fun _ _ _ _ _ => ts_nil) (fun _ _ _ _ _ => (e_mt PySem.F.plainAttrs_str PySem.F.slot_str_partition PySem.F.type_str_partition m_part (e_var 6) (a_cons e_str a_nil))) rfl) (e_lst a_nil)) (g_name (i := 2) sc_read_task.nd (by rfl) (by first | exact Or.inl rfl | exact Or.inr rfl)))
    (x_skip (s_asg (e_callTy (c_tuple (by rfl)) (by rfl) (W.free 13) bt_tuple (a_cons (e_lc (by rfl) sc_read_task.nd (i_seq (by rfl) (e_var 2)) (blkOk_by (own := [("_", 7), ("name", 8)]) (by kernel_rfl)) (fun _ _ _ _ _ => (tg_tup (by rfl) (by rfl) (tgs_cons (tg_name (i := 7) sc_read_task.nd rfl (by first | exact Or.inl rfl | exact Or.inr rfl)) (tgs_cons (tg_name (i := 7) sc_read_task.nd rfl (by first | exact Or.inl rfl | exact Or.inr rfl)) (tgs_cons (tg_name (i := 8) sc_read_task.nd rfl (by first | exact Or.inl rfl | exact Or.inr rfl)) tgs_nil))))) (fun _ _ _ _ _ => ts_nil) (fun _ _ _ _ _ => (e_var 8)) rfl) a_nil)) (g_name (i := 3) sc_read_task.nd (by rfl) (by first | exact Or.inl rfl | exact Or.inr rfl)))
    (x_skip (s_asg (e_callTy (c_tuple (by rfl)) (by rfl) (W.free 13) bt_tuple (a_cons (e_lc (by rfl) sc_read_task.nd (i_seq (by rfl) (e_slice (by rfl) (e_var 1) (o_part e_int) (o_part (e_un o_neg e_int)))) (blkOk_by (own := [("line", 9)]) (by kernel_rfl)) (fun _ _ _ _ _ => (tg_name (i := 9) sc_read_task.nd rfl (by first | exact Or.inl rfl | exact Or.inr rfl))) (fun _ _ _ _ _ => ts_nil) (fun _ _ _ _ _ => (e_callP (ok_read_row W) (hr.mono (by decide)) (by rfl) (a_cons (e_var 9) (a_cons (e_var 3) a_nil)))) rfl) a_nil)) (g_name (i := 4) sc_read_task.nd (by rfl) (by first | exact Or.inl rfl | exact Or.inr rfl)))
    (x_skip (s_asg (e_tup (a_cons (e_var 3) (a_cons (e_callTy (c_tuple (by rfl)) (by rfl) (W.free 13) bt_tuple (a_cons (e_lc (by rfl) sc_read_task.nd (i_seq (by rfl) (e_var 2)) (blkOk_by (own := [("kind", 10), ("_", 7)]) (by kernel_rfl)) (fun _ _ _ _ _ => (tg_tup (by rfl) (by rfl) (tgs_cons (tg_name (i := 10) sc_read_task.nd rfl (by first | exact Or.inl rfl | exact Or.inr rfl)) (tgs_cons (tg_name (i := 7) sc_read_task.nd rfl (by first | exact Or.inl rfl | exact Or.inr rfl)) (tgs_cons (tg_name (i := 7) sc_read_task.nd rfl (by first | exact Or.inl rfl | exact Or.inr rfl)) tgs_nil))))) (fun _ _ _ _ _ => ts_nil) (fun _ _ _ _ _ => (e_var 10)) rfl) a_nil)) (a_cons (e_var 4) (a_cons (e_callP (ok_read_sum_prooftexts W) (hr.mono (by decide)) (by rfl) (a_cons (e_slice (by rfl) (e_ix (ix_D (by rfl)) (e_var 1) e_int (fun _ _ => rfl)) (o_part e_int) o_no) (a_cons (e_var 3) a_nil))) a_nil))))) (g_name (i := 5) sc_read_task.nd (by rfl) (by first | exact Or.inl rfl | exact Or.inr rfl)))
    (x_here (x_if (PW.pt (w_or (t_not (t_val (e_callP (ok_is_task W) (hr.mono (by decide)) (by rfl) (a_cons (e_var 5) a_nil)))) (w_one_or t_never)))
    (x_here (x_raise (cn := 3) (bmB := He.veBase) (by rfl) tk PySem.F.excBase_ValueError (He.exc_ok (W.says.fact 2)).1 (W.fun_ 3) (He.exc_ok (W.says.fact 2)).2.1 (raises_own (He.exc_ok (W.says.fact 2)).2.2.1 (He.exc_ok (W.says.fact 2)).2.2.2) (by rfl) (a_cons (e_var 0) a_nil)))
    x_nevers)))))))))
/-! read_proof -/
def m_read_proof : MX := (xSkip (sAsg (mMt "str" splitM (mVar 0) (mCons (mC (.str "\n")) mNil)) (gNm 2)) (xSkip (sIf (mTest (mOp neD (mOp ixD (mVar 2) (mUn negD (mC (.int 1)))) (mC (.str "")))) sNever sNx) (xSkip (sAsg (mNew mNil) (gNm 3)) (xSkip (sFor (iSeq (mSl slD (mVar 2) oNo (oPart (mUn negD (mC (.int 1)))))) (gNm 4) (sSeq (sAsg (mMt "str" partM (mVar 4) (mCons (mC (.str " by ")) mNil)) (gTpN 3 (gCons' (gNm 5) (gCons' (gNm 6) (gCons' (gNm 7) gNil'))))) (sSeq (sIf (mTest (mOp eqD (mVar 6) (mC (.str "")))) sNever sNx) (sExp (mMt "list" appendM (mVar 3) (mCons (mTup (mCons (mCall (callP f_read_row) (mCons (mVar 5) (mCons (mVar 1) mNil))) (mCons (mCall (callP f_read_reason) (mCons (mVar 7) (mCons (mVar 1) mNil))) mNil))) mNil)))))) (xIf (tOr' (tNot' (mTest (mCall (callP f_is_proof) (mCons (mCal tupleL (mCons (mVar 3) mNil)) (mCons (mCal lenL (mCons (mVar 1) mNil)) mNil))))) (fun _ _ => none)) (xOf (eMk (mCons (mVar 0) mNil) 4)) xNever)))))
def f_read_proof := bodyX 2 8 m_read_proof
theorem sc_read_proof : FnScope ["text", "names", "lines", "found", "line", "row", "by", "reason"] ["text", "names"] (defScope (top 76)) := ⟨rfl, rfl, rfl, by decide +kernel, rfl, by decide +kernel, by decide +kernel⟩
theorem ok_read_proof (W : Wk K mg) : DefX P w K mg base "read_proof" 6 (SpX (gx fns cls_ K) f_read_proof) := by
  obtain ⟨fd, F⟩ := W.says.def_ 35 rfl
  refine ⟨⟨_, fd, ["text", "names"], F.ok (CX := L2N.CX P w) sc_read_proof (len_X rfl) (fun cdv A outer s H vs Q E hr h => ⟨_, ?_, read_X h⟩), W.fun_ 53, F.kp, F.bindsN fun _ _ _ _ _ _ us hl => match us, hl with | [_, _], _ => rfl⟩⟩
  exact (have tk : L2N.Takes _ (WXE E) := L2N.takes_of rfl rfl rfl rfl; (x_skip (s_asg (e_mt PySem.F.plainAttrs_str PySem.F.slot_str_split PySem.F.type_str_split m_split (e_var 0) (a_cons e_str a_nil)) (g_name (i := 2) sc_read_proof.nd (by rfl) (by first | exact Or.inl rfl | exact Or.inr rfl)))
    (x_skip (s_if (t_cmp (o_ne (by rfl) (room_u64 hr)) (e_ix (ix_D (by rfl)) (e_var 2) (e_un o_neg e_int) (fun _ _ => rfl)) e_str (nomark _))
    s_nevers
    s_nil)
    (x_skip (s_asg (e_new a_nil) (g_name (i := 3) sc_read_proof.nd (by rfl) (by first | exact Or.inl rfl | exact Or.inr rfl)))
    (x_skip (s_for (passes_of rfl) (by rfl) (i_seq (by rfl) (e_slice (by rfl) (e_var 2) o_no (o_part (e_un o_neg e_int)))) (g_name (i := 4) sc_read_proof.nd (by rfl) (by first | exact Or.inl rfl | exact Or.inr rfl))
    (s_cons (s_asg (e_mt PySem.F.plainAttrs_str PySem.F.slot_str_partition PySem.F.type_str_partition m_part (e_var 4) (a_cons e_str a_nil)) (g_tup (by rfl) (by rfl) (gs_cons (g_name (i := 5) sc_read_proof.nd (by rfl) (by first | exact Or.inl rfl | exact Or.inr rfl)) (gs_cons (g_name (i := 6) sc_read_proof.nd (by rfl) (by first | exact Or.inl rfl | exact Or.inr rfl)) (gs_cons (g_name (i := 7) sc_read_proof.nd (by rfl) (by first | exact Or.inl rfl | exact Or.inr rfl)) gs_nil)))))
    (s_cons (s_if (t_cmp (o_eq (by rfl) (room_u64 hr)) (e_var 6) e_str (nomark _))
    s_nevers
    s_nil)
    (s_one (s_expr (e_mt PySem.F.plainAttrs_list PySem.F.slot_list_append PySem.F.type_list_append m_append (e_var 3) (a_cons (e_tup (a_cons (e_callP (ok_read_row W) (hr.mono (by decide)) (by rfl) (a_cons (e_var 5) (a_cons (e_var 1) a_nil))) (a_cons (e_callP (ok_read_reason W) (hr.mono (by decide)) (by rfl) (a_cons (e_var 7) (a_cons (e_var 1) a_nil))) a_nil))) a_nil)))))))
    (x_here (x_if (PW.pt (w_or (t_not (t_val (e_callP (ok_is_proof W) (hr.mono (by decide)) (by rfl) (a_cons (e_callTy (c_tuple (by rfl)) (by rfl) (W.free 13) bt_tuple (a_cons (e_var 3) a_nil)) (a_cons (e_callB (c_len (by rfl)) (by rfl) (W.free 12) bt_len (a_cons (e_var 1) a_nil)) a_nil))))) (w_one_or t_never)))
    (x_here (x_raise (cn := 4) (bmB := He.veBase) (by rfl) tk PySem.F.excBase_ValueError (He.exc_ok (W.says.fact 4)).1 (W.fun_ 5) (He.exc_ok (W.says.fact 4)).2.1 (raises_own (He.exc_ok (W.says.fact 4)).2.2.1 (He.exc_ok (W.says.fact 4)).2.2.2) (by rfl) (a_cons (e_var 0) a_nil)))
    x_nevers)))))))
def m_law_m_classes (x : Xi) : MS := (sSeq (sAsg (mLst (mCons (mCal (isEL (tbX x.1) ttX) (mCons (mVar 0) (mCons (mC (.fn 4)) mNil))) (mCons (mCal (isEL (tbX x.1) ttX) (mCons (mVar 0) (mCons (mC (.fn 5)) mNil))) (mCons (mCal (isEL (tbX x.1) ttX) (mCons (mVar 0) (mCons (mC (.fn 6)) mNil))) (mCons (mCal (isEL (tbX x.1) ttX) (mCons (mVar 0) (mCons (mC (.fn 7)) mNil))) mNil))))) (gNm 1)) (sRet (mOp addD (mLc (iRange1 (mCons (mC (.int 4)) mNil)) (tn1 (.nm 2) (mTest (mOp ixD (mVar 1) (mVar 2))) (mVar 2)) [2]) (mLst (mCons (mCal intSL (mCons (mCal (isEL (tbX x.1) ttX) (mCons (mVar 0) (mCons (mC (.ty "ValueError")) mNil))) mNil)) mNil)))))
def f_law_m_classes (x : Xi) := bodyP 1 3 (m_law_m_classes x)
theorem sc_law_m_classes : FnScope ["e", "found", "k"] ["e"] (defScope (top 83)) := ⟨rfl, rfl, rfl, by decide +kernel, rfl, by decide +kernel, by decide +kernel⟩
theorem ok_law_m_classes (W : Wk K mg) (x : Xi) (a : Addr) (oe : Obj) (d : Option Addr) (hok : okX x.1 = true) (hz : L2N.Zn (.ref ((gx fns cls_ K).ca x.1)) d oe) (hd : ∃ vs, oe.data = .fields vs) : DefHp P w K mg base "_law_m_classes" 1 (a, oe) (SpP ((gx fns cls_ K).exc a d x.2) (f_law_m_classes x)) := by
  obtain ⟨fd, F⟩ := W.says.def_ 36 rfl
  refine ⟨⟨_, fd, ["e"], okHp F sc_law_m_classes (len_P rfl) (fun cdv A outer s H vs Q E hot hr h => ⟨_, PSs.nox ?_, read_P h⟩), W.fun_ 55, F.kp, F.bindsN fun _ _ _ _ _ _ us hl => match us, hl with | [_], _ => rfl⟩⟩
  have hp := @List.mem_cons_self (Addr × Obj) (a, oe) []
  have hotC : ∀ X : Cx, X.A.handled = A.handled → X.pn = [(a, oe)] → L2H.HotC X := fun X h1 h2 => ⟨(a, oe), ⟨h1.trans hot.1, hot.2⟩, by rw [h2]; exact hp⟩
  exact (s_cons (s_asg (e_lst (a_cons (e_callB (c_isE (okX_exe W hok) hz.zc hd hp (okX_tb W hok) (okX_tt W hok)) (by rfl) (W.free 7) bt_isinstance (a_cons (e_var 0) (a_cons (e_glo (GlobOk.exc (W.glo 14) (by rfl))) a_nil))) (a_cons (e_callB (c_isE (okX_exe W hok) hz.zc hd hp (okX_tb W hok) (okX_tt W hok)) (by rfl) (W.free 7) bt_isinstance (a_cons (e_var 0) (a_cons (e_glo (GlobOk.exc (W.glo 15) (by rfl))) a_nil))) (a_cons (e_callB (c_isE (okX_exe W hok) hz.zc hd hp (okX_tb W hok) (okX_tt W hok)) (by rfl) (W.free 7) bt_isinstance (a_cons (e_var 0) (a_cons (e_glo (GlobOk.exc (W.glo 16) (by rfl))) a_nil))) (a_cons (e_callB (c_isE (okX_exe W hok) hz.zc hd hp (okX_tb W hok) (okX_tt W hok)) (by rfl) (W.free 7) bt_isinstance (a_cons (e_var 0) (a_cons (e_glo (GlobOk.exc (W.glo 17) (by rfl))) a_nil))) a_nil))))) (g_name (i := 1) sc_law_m_classes.nd (by rfl) (by first | exact Or.inl rfl | exact Or.inr rfl)))
    (s_one (s_ret (e_op (o_add (by rfl)) (e_lcH (by exact hotC _ rfl rfl) sc_law_m_classes.nd (i_range1H (by rfl) (W.free 23) (a_cons e_int a_nil)) (blkOk_by (own := [("k", 2)]) (by kernel_rfl)) (fun _ _ _ _ _ => (tg_name (i := 2) sc_law_m_classes.nd rfl (by first | exact Or.inl rfl | exact Or.inr rfl))) (fun _ _ _ _ _ => (ts_one (t_val (e_ix (ix_D (by rfl)) (e_var 1) (e_var 2) (fun _ _ => rfl))))) (fun _ _ _ _ _ => (e_var 2)) rfl) (e_lst (a_cons (e_callTy c_intS (by rfl) (W.free 8) bt_int (a_cons (e_callB (c_isE (okX_exe W hok) hz.zc hd hp (okX_tb W hok) (okX_tt W hok)) (by rfl) (W.free 7) bt_isinstance (a_cons (e_var 0) (a_cons (e_ty (by rfl) (W.free 54) bt_ValueError) a_nil))) a_nil)) a_nil))))))
/-! _law_m_raised_by -/
def m__law_m_raised_by : MS := (sSeq (sTryX (xIf (mTest (mOp eqD (mVar 0) (mC (.int 0)))) (xOf (xCallP f_read_digits_x (mCons (mC (.str "x")) mNil))) (xIf (mTest (mOp eqD (mVar 0) (mC (.int 1)))) (xOf (xCallP f_parse (mCons (mC (.str "\nx")) mNil))) (xIf (mTest (mOp eqD (mVar 0) (mC (.int 2)))) (xOf (xCallP f_read_task (mCons (mC (.str "whole:a\nleast 0\n")) mNil))) (xOf (xCallP f_read_proof (mCons (mC (.str "0 >= 0 by sum 1:1 0:1\n")) (mCons (mTup mNil) mNil))))))) okX (fun x => (sSeq (sIf (tAnd' (mTest (mCal (isEL (tbX x.1) ttX) (mCons (mVar 1) (mCons (mC (.fn 5)) mNil)))) (tOr' (mTest (mOp neD (mUn (xfL (if x.1 == 2 then x.2 else none) "line") (mVar 1)) (mC (.int 2)))) (tNot' (mTest (mCal isiL (mCons (mUn (xfL (if x.1 == 2 then x.2 else none) "what") (mVar 1)) (mCons (mC (.ty "str")) mNil))))))) sNever sNx) (sRet (mCall (callP (f_law_m_classes x)) (mCons (mVar 1) mNil))))) 1) sNever)
def f__law_m_raised_by := bodyP 1 2 m__law_m_raised_by
theorem sc__law_m_raised_by : FnScope ["way", "e"] ["way"] (defScope (top 84)) := ⟨rfl, rfl, rfl, by decide +kernel, rfl, by decide +kernel, by decide +kernel⟩
theorem ok__law_m_raised_by (W : Wk K mg) : DefOk P w K mg base "_law_m_raised_by" 7 (SpP (gx fns cls_ K) f__law_m_raised_by) := by
  obtain ⟨fd, F⟩ := W.says.def_ 37 rfl
  refine ⟨⟨_, fd, ["way"], F.ok sc__law_m_raised_by (len_P rfl) (fun cdv A outer s H vs Q E hr h => ⟨_, PSs.nox ?_, read_P h⟩), W.fun_ 56, F.kp, F.bindsN fun _ _ _ _ _ _ us hl => match us, hl with | [_], _ => rfl⟩⟩
  exact (s_cons (s_tryX (ok := okX) rfl rfl sc__law_m_raised_by.nd (i := 1) rfl (by rfl) ⟨by rfl, by decide, .inl (W.fun_ 47)⟩ (okX_exm W)
    (fun Wx pn xe tk => (x_here (x_if (t_cmp (o_eq (by rfl) (room_u64 hr)) (e_var 0) e_int (nomark _))
    (x_here (x_expr (x_callP (ok_read_digits_x W) tk (hr.mono (by decide)) (by rfl) (a_cons e_str a_nil))))
    (x_here (x_if (t_cmp (o_eq (by rfl) (room_u64 hr)) (e_var 0) e_int (nomark _))
    (x_here (x_expr (x_callP (ok_parse W) tk (hr.mono (by decide)) (by rfl) (a_cons e_str a_nil))))
    (x_here (x_if (t_cmp (o_eq (by rfl) (room_u64 hr)) (e_var 0) e_int (nomark _))
    (x_here (x_expr (x_callP (ok_read_task W) tk (hr.mono (by decide)) (by rfl) (a_cons e_str a_nil))))
    (x_here (x_expr (x_callP (ok_read_proof W) tk (hr.mono (by decide)) (by rfl) (a_cons e_str (a_cons (e_tup a_nil) a_nil))))))))))))
    (fun x a oe d pn hok hz hd => by
    have hr := roomH_mk hr (some (Value.ref a))
    have hot : ∀ Y : Around, Y.handled = some (Value.ref a) → L2H.Hot1 Y (a, oe) := fun Y h => ⟨h, hd.elim fun vs hv => ⟨vs, hv, hz.2.2 vs hv⟩⟩
    have hp := @List.mem_cons_self (Addr × Obj) (a, oe) pn
    exact (s_cons (s_if (PW.pt (w_and (t_val (e_callB (c_isE (okX_exe W hok) hz.zc hd hp (okX_tb W hok) (okX_tt W hok)) (by rfl) (W.free 7) bt_isinstance (a_cons (e_var 1) (a_cons (e_glo (GlobOk.exc (W.glo 15) (by rfl))) a_nil)))) (w_one_and (PW.pt (w_or (t_cmp (o_ne (by rfl) (roomH_u64 hr)) (e_xf2 (exB_ok W.xb).xf (exB_ok W.xb).line hz.zc hd (fun z => by rw [eq_of_beq z] <;> rfl) (e_var 1)) e_int (nomark _)) (w_one_or (t_not (t_val (e_callB (c_isi (by rfl)) (by rfl) (W.free 7) bt_isinstance (a_cons (e_xf2 (exB_ok W.xb).xf (exB_ok W.xb).what hz.zc hd (fun z => by rw [eq_of_beq z] <;> rfl) (e_var 1)) (a_cons (e_ty (by rfl) (W.free 16) bt_str) a_nil)))))))))))
    s_nevers
    s_nil)
    (s_one (s_ret (e_callPH (ok_law_m_classes W x a oe d hok hz hd) (hr.mono (by decide)) (by exact hot _ rfl) hp (by rfl) (a_cons (e_var 1) a_nil)))))))
    s_nevers)
/-! _law_equal_0 -/
def m__law_equal_0 : MS := (sSeq (sIf (mTest (mOp neD (mCall (callP f__law_kind) (mCons (mVar 0) mNil)) (mCall (callP f__law_kind) (mCons (mVar 1) mNil)))) sNever sNx) (sSeq (sIf (tOr' (mTest (mCal isiL (mCons (mVar 1) (mCons (mC (.ty "tuple")) mNil)))) (mTest (mCal isiL (mCons (mVar 1) (mCons (mC (.ty "list")) mNil))))) (sSeq (sIf (mTest (mOp neD (mCal lenL (mCons (mVar 0) mNil)) (mCal lenL (mCons (mVar 1) mNil)))) sNever sNx) sNever) sNx) (sSeq (sIf (mTest (mCal isiL (mCons (mVar 1) (mCons (mC (.ty "dict")) mNil)))) sNever sNx) (sRet (mOp eqD (mVar 0) (mVar 1))))))
def f__law_equal_0 := bodyP 2 5 m__law_equal_0
theorem sc__law_equal_0 : FnScope ["x", "due", "key", "k", "other"] ["x", "due"] (defScope (top 82)) := ⟨rfl, rfl, rfl, by decide +kernel, rfl, by decide +kernel, by decide +kernel⟩
theorem ok__law_equal_0 (W : Wk K mg) : DefOk P w K mg base "_law_equal" 2 (SpP (gx fns cls_ K) f__law_equal_0) := by
  obtain ⟨fd, F⟩ := W.says.def_ 38 rfl
  refine ⟨⟨_, fd, ["x", "due"], F.ok sc__law_equal_0 (len_P rfl) (fun cdv A outer s H vs Q E hr h => ⟨_, PSs.nox ?_, read_P h⟩), W.fun_ 58, F.kp, F.bindsN fun _ _ _ _ _ _ us hl => match us, hl with | [_, _], _ => rfl⟩⟩
  exact (s_cons (s_if (t_cmp (o_ne (by rfl) (room_u64 hr)) (e_callP (ok__law_kind W) (hr.mono (by decide)) (by rfl) (a_cons (e_var 0) a_nil)) (e_callP (ok__law_kind W) (hr.mono (by decide)) (by rfl) (a_cons (e_var 1) a_nil)) (nomark _))
    s_nevers
    s_nil)
    (s_cons (s_if (PW.pt (w_or (t_val (e_callB (c_isi (by rfl)) (by rfl) (W.free 7) bt_isinstance (a_cons (e_var 1) (a_cons (e_ty (by rfl) (W.free 13) bt_tuple) a_nil)))) (w_one_or (t_val (e_callB (c_isi (by rfl)) (by rfl) (W.free 7) bt_isinstance (a_cons (e_var 1) (a_cons (e_ty (by rfl) (W.free 45) bt_list) a_nil)))))))
    (s_cons (s_if (t_cmp (o_ne (by rfl) (room_u64 hr)) (e_callB (c_len (by rfl)) (by rfl) (W.free 12) bt_len (a_cons (e_var 0) a_nil)) (e_callB (c_len (by rfl)) (by rfl) (W.free 12) bt_len (a_cons (e_var 1) a_nil)) (nomark _))
    s_nevers
    s_nil)
    (s_one s_never))
    s_nil)
    (s_cons (s_if (t_val (e_callB (c_isi (by rfl)) (by rfl) (W.free 7) bt_isinstance (a_cons (e_var 1) (a_cons (e_ty (by rfl) (W.free 57) bt_dict) a_nil))))
    s_nevers
    s_nil)
    (s_one (s_ret (e_cmp (o_eq (by rfl) (room_u64 hr)) (e_var 0) (e_var 1) (nomark _)))))))
/-! _law_equal_1 -/
def m__law_equal_1 : MS := (sSeq (sIf (mTest (mOp neD (mCall (callP f__law_kind) (mCons (mVar 0) mNil)) (mCall (callP f__law_kind) (mCons (mVar 1) mNil)))) sNever sNx) (sSeq (sIf (tOr' (mTest (mCal isiL (mCons (mVar 1) (mCons (mC (.ty "tuple")) mNil)))) (mTest (mCal isiL (mCons (mVar 1) (mCons (mC (.ty "list")) mNil))))) (sSeq (sIf (mTest (mOp neD (mCal lenL (mCons (mVar 0) mNil)) (mCal lenL (mCons (mVar 1) mNil)))) sNever sNx) (sRet (mOp eqD (mCal lenL (mCons (mLc (iRange1 (mCons (mCal lenL (mCons (mVar 1) mNil)) mNil)) (tn1 (.nm 3) (tNot' (mTest (mCall (callP f__law_equal_0) (mCons (mOp ixD (mVar 0) (mVar 3)) (mCons (mOp ixD (mVar 1) (mVar 3)) mNil))))) (mVar 3)) [3]) mNil)) (mC (.int 0))))) sNx) (sSeq (sIf (mTest (mCal isiL (mCons (mVar 1) (mCons (mC (.ty "dict")) mNil)))) sNever sNx) (sRet (mOp eqD (mVar 0) (mVar 1))))))
def f__law_equal_1 := bodyP 2 5 m__law_equal_1
theorem sc__law_equal_1 : FnScope ["x", "due", "key", "k", "other"] ["x", "due"] (defScope (top 82)) := ⟨rfl, rfl, rfl, by decide +kernel, rfl, by decide +kernel, by decide +kernel⟩
theorem ok__law_equal_1 (W : Wk K mg) : DefOk P w K mg base "_law_equal" 3 (SpP (gx fns cls_ K) f__law_equal_1) := by
  obtain ⟨fd, F⟩ := W.says.def_ 39 rfl
  refine ⟨⟨_, fd, ["x", "due"], F.ok sc__law_equal_1 (len_P rfl) (fun cdv A outer s H vs Q E hr h => ⟨_, PSs.nox ?_, read_P h⟩), W.fun_ 58, F.kp, F.bindsN fun _ _ _ _ _ _ us hl => match us, hl with | [_, _], _ => rfl⟩⟩
  exact (s_cons (s_if (t_cmp (o_ne (by rfl) (room_u64 hr)) (e_callP (ok__law_kind W) (hr.mono (by decide)) (by rfl) (a_cons (e_var 0) a_nil)) (e_callP (ok__law_kind W) (hr.mono (by decide)) (by rfl) (a_cons (e_var 1) a_nil)) (nomark _))
    s_nevers
    s_nil)
    (s_cons (s_if (PW.pt (w_or (t_val (e_callB (c_isi (by rfl)) (by rfl) (W.free 7) bt_isinstance (a_cons (e_var 1) (a_cons (e_ty (by rfl) (W.free 13) bt_tuple) a_nil)))) (w_one_or (t_val (e_callB (c_isi (by rfl)) (by rfl) (W.free 7) bt_isinstance (a_cons (e_var 1) (a_cons (e_ty (by rfl) (W.free 45) bt_list) a_nil)))))))
    (s_cons (s_if (t_cmp (o_ne (by rfl) (room_u64 hr)) (e_callB (c_len (by rfl)) (by rfl) (W.free 12) bt_len (a_cons (e_var 0) a_nil)) (e_callB (c_len (by rfl)) (by rfl) (W.free 12) bt_len (a_cons (e_var 1) a_nil)) (nomark _))
    s_nevers
    s_nil)
    (s_one (s_ret (e_cmp (o_eq (by rfl) (room_u64 hr)) (e_callB (c_len (by rfl)) (by rfl) (W.free 12) bt_len (a_cons (e_lc (by rfl) sc__law_equal_1.nd (i_range1 (by rfl) (W.free 23) (a_cons (e_callB (c_len (by rfl)) (by rfl) (W.free 12) bt_len (a_cons (e_var 1) a_nil)) a_nil)) (blkOk_by (own := [("k", 3)]) (by kernel_rfl)) (fun _ _ _ _ _ => (tg_name (i := 3) sc__law_equal_1.nd rfl (by first | exact Or.inl rfl | exact Or.inr rfl))) (fun _ _ _ _ _ => (ts_one (t_not (t_val (e_callP (ok__law_equal_0 W) (hr.mono (by decide)) (by rfl) (a_cons (e_ix (ix_D (by rfl)) (e_var 0) (e_var 3) (fun _ _ => rfl)) (a_cons (e_ix (ix_D (by rfl)) (e_var 1) (e_var 3) (fun _ _ => rfl)) a_nil))))))) (fun _ _ _ _ _ => (e_var 3)) rfl) a_nil)) e_int (nomark _)))))
    s_nil)
    (s_cons (s_if (t_val (e_callB (c_isi (by rfl)) (by rfl) (W.free 7) bt_isinstance (a_cons (e_var 1) (a_cons (e_ty (by rfl) (W.free 57) bt_dict) a_nil))))
    s_nevers
    s_nil)
    (s_one (s_ret (e_cmp (o_eq (by rfl) (room_u64 hr)) (e_var 0) (e_var 1) (nomark _)))))))
/-! law -/
def m_law : MS := (sSeq (sFor (iRange1 (mCons (mC (.int 4)) mNil)) (gNm 1) (sSeq (sAsg (mOp modD (mCal intSL (mCons (mOp addD (mVar 1) (mCal intSL (mCons (mCall (callP f__law_cell) (mCons (mVar 0) (mCons (mC (.int 0)) mNil))) mNil))) mNil)) (mC (.int 4))) (gNm 2)) (sIf (tNot' (mTest (mCall (callP f__law_equal_1) (mCons (mCall (callP f__law_m_raised_by) (mCons (mVar 2) mNil)) (mCons (mLst (mCons (mVar 2) (mCons (mC (.int 1)) mNil))) mNil))))) sNever sNx))) (sRet (mC (.bl true))))
def f_law := bodyP 1 3 m_law
theorem sc_law : FnScope ["script", "k", "way"] ["script"] (defScope (top 85)) := ⟨rfl, rfl, rfl, by decide +kernel, rfl, by decide +kernel, by decide +kernel⟩
theorem fn_law (W : Wk K mg) {fd : FuncData} (F : FunD K "law" "law" (defArgs (top 85)) (defBody (top 85)) (defScope (top 85)) [] [] (He.fAd K ("law", none)) fd) : FnOk P w K mg base CX0 8 (He.fAd K ("law", none)) fd ["script"] (SpP (gx fns cls_ K) f_law) := by
  refine F.ok sc_law (len_P rfl) fun cdv A outer s H vs Q E hr h => ⟨_, PSs.nox ?_, read_P h⟩
  exact (s_cons (s_for PassesOwn.never (by rfl) (i_range1 (by rfl) (W.free 23) (a_cons e_int a_nil)) (g_name (i := 1) sc_law.nd (by rfl) (by first | exact Or.inl rfl | exact Or.inr rfl))
    (s_cons (s_asg (e_op (o_mod) (e_callTy c_intS (by rfl) (W.free 8) bt_int (a_cons (e_op (o_add (by rfl)) (e_var 1) (e_callTy c_intS (by rfl) (W.free 8) bt_int (a_cons (e_callP (ok__law_cell W) (hr.mono (by decide)) (by rfl) (a_cons (e_var 0) (a_cons e_int a_nil))) a_nil))) a_nil)) e_int) (g_name (i := 2) sc_law.nd (by rfl) (by first | exact Or.inl rfl | exact Or.inr rfl)))
    (s_one (s_if (t_not (t_val (e_callP (ok__law_equal_1 W) (hr.mono (by decide)) (by rfl) (a_cons (e_callP (ok__law_m_raised_by W) (hr.mono (by decide)) (by rfl) (a_cons (e_var 2) a_nil)) (a_cons (e_lst (a_cons (e_var 2) (a_cons e_int a_nil))) a_nil)))))
    s_nevers
    s_nil))))
    (s_one (s_ret e_bl)))
def lawLevel : Nat := 8
def lawAt : Nat := 85
def lawDef : Nat := 40
-- END 8 85 40 59
end
end K79
end Rf
end

section
set_option maxRecDepth 100000
set_option maxHeartbeats 0
set_option linter.all false
namespace Rf.K79
open PySem L2
theorem r0 : f__law_m_raised_by [.int 0] = some (.lst [.int 0, .int 1]) := by kernel_rfl
theorem r1 : f__law_m_raised_by [.int 1] = some (.lst [.int 1, .int 1]) := by kernel_rfl
theorem r2 : f__law_m_raised_by [.int 2] = some (.lst [.int 2, .int 1]) := by kernel_rfl
theorem r3 : f__law_m_raised_by [.int 3] = some (.lst [.int 3, .int 1]) := by kernel_rfl
theorem q0 : f__law_equal_1 [.lst [.int 0, .int 1], .lst [.int 0, .int 1]] = some (.bl true) := by kernel_rfl
theorem q1 : f__law_equal_1 [.lst [.int 1, .int 1], .lst [.int 1, .int 1]] = some (.bl true) := by kernel_rfl
theorem q2 : f__law_equal_1 [.lst [.int 2, .int 1], .lst [.int 2, .int 1]] = some (.bl true) := by kernel_rfl
theorem q3 : f__law_equal_1 [.lst [.int 3, .int 1], .lst [.int 3, .int 1]] = some (.bl true) := by kernel_rfl
theorem four {w : Int} (h0 : 0 ≤ w) (h4 : w < 4) : f__law_m_raised_by [.int w] = some (.lst [.int w, .int 1]) ∧ f__law_equal_1 [.lst [.int w, .int 1], .lst [.int w, .int 1]] = some (.bl true) := by
  have : w = 0 ∨ w = 1 ∨ w = 2 ∨ w = 3 := by omega
  rcases this with rfl | rfl | rfl | rfl
  · exact ⟨r0, q0⟩
  · exact ⟨r1, q1⟩
  · exact ⟨r2, q2⟩
  · exact ⟨r3, q3⟩
theorem cell (ns : List Int) : ∃ c, f__law_cell [.scr ns, .int 0] = some (.int c) := by
  cases ns with
  | nil => exact ⟨0, by kernel_rfl⟩
  | cons x r =>
    refine ⟨x, ?_⟩
    have h : (0 : Int) < (r.length : Int) + 1 := by omega
    simp [f__law_cell, bodyP, m__law_cell, startD, sSeq, sIf, sRet, sNx, mTest, mOp, mVar, mCal, mCons, mNil, lenL, seqOf, asSeq, ltD, cmpD, mBl, ixD, atI, mC, toP, h, ixN]
theorem law_true (ns : List Int) : f_law [.scr ns] = some (.bl true) := by
  obtain ⟨c, hc⟩ := cell ns
  have m0 : ∀ x : Int, 0 ≤ x % 4 ∧ x % 4 < 4 := fun x => by omega
  have f := fun x : Int => four (m0 x).1 (m0 x).2
  have g := fun x : Int => (f x).1
  have g' := fun x : Int => (f x).2
  have e4 : rngD 0 4 = [.p (.int 0), .p (.int 1), .p (.int 2), .p (.int 3)] := by rfl
  have e1 : callP f__law_cell [.p (.scr ns), .p (.int 0)] [] = some (.p (.int c), []) := by
    unfold callP
    simp [allP, hc]
  have e2 : ∀ x : Int, callP f__law_m_raised_by [.p (.int (x % 4))] [] = some (.p (.lst [.int (x % 4), .int 1]), []) := fun x => by
    unfold callP
    simp [allP, g]
  have e3 : ∀ x : Int, callP f__law_equal_1 [.p (.lst [.int (x % 4), .int 1]), .p (.lst [.int (x % 4), .int 1])] [] = some (.p (.bl true), []) := fun x => by
    unfold callP
    simp [allP, g']
  simp [f_law, bodyP, m_law, startD, sSeq, sFor, iRange1, mCons, mNil, mC, e4, forL, gNm, sAsg, mOp, mCal, mVar, mCall, e1, intSL, addD, modD, intD, modI, sIf, tNot', mTest, mLst, lstOf, allP, e2, e3, mBl, sNx, sRet, toP]
end Rf.K79
end

section
set_option Elab.async false
set_option linter.all false
set_option maxRecDepth 100000
set_option maxHeartbeats 0
namespace Rf
namespace K79
open PySem L2
def loose0 : List Str := ["BestError", "BadText", "BadModel", "NotATask", "NotAProof", "ZERO", "ONE", "DIGITS_fractions", "is_int", "common", "is_fraction", "fraction", "fraction_fractions", "is_whole", "write_fraction", "read_digits", "read_fraction", "LETTERS", "DIGITS_modelwords", "MARKS", "KEPT", "lines_of", "signs_of", "sign_at", "Reader", "SENSES_modelparse", "MOST_modelparse", "parse", "statement", "read_set"]
def loose1 : List Str := ["read_places", "read_numbers", "read_names", "read_pairs", "read_line", "read_goal", "read_ref", "read_sum", "read_sum_modelparse", "read_term", "read_factor", "is_sum", "is_row", "MOST_tasks", "FIRST", "SIGNS", "is_name", "has_bounds", "is_task", "is_parts", "is_reason", "is_loss", "is_proof", "SENSES_prooftexts", "write_sum", "read_sum_prooftexts", "write_row", "read_row", "write_parts", "read_parts"]
def loose2 : List Str := ["read_place", "write_maps", "read_maps", "write_reason", "read_reason", "read_loss", "write_proof", "read_proof", "write_task", "read_task", "_law_cell", "_law_kind", "_law_equal", "_law_m_classes", "_law_m_raised_by"]
def loose : List Str := loose0 ++ loose1 ++ loose2
abbrev R : PySem.W.OpenRow := PySem.W.OpenLaw.row PySem.Challenge.rw_provedbest_k79_errors_stand_beside_one_a
abbrev hk : PySem.W.Hook := hookE 4 fa fn gs fns cls_ exB
def ob (s : PySem.W.SharedT) : AlE := obsEE 4 fa fn gs fns cls_ exB (HandSHeadRun.getT s)
theorem ob_eq (s : PySem.W.SharedT) : ob s = hk.obs s.abs := obsEE_eq (HandSHeadRun.getT_eq s)
theorem run (w : World) : HandSHeadRun.RunEq R (PySem.W.view R.prog [85]) hk ob 6000 loose w := by
  intro os
  kernel_rfl
end K79
end Rf
section
open PySem PySem.W PySem.Calls PyProof.Rows
theorem PySem.Challenge.cw_provedbest_k79_errors_stand_beside_one_a_holds : PySem.Challenge.rw_provedbest_k79_errors_stand_beside_one_a.Holds := by
  w_on; o_law
  refine HandSHeadRun.head_any (r := Rf.K79.R) (q := view Rf.K79.R.prog [85]) (H := Rf.K79.hk) (ob := Rf.K79.ob) (M := 6000) (loose := Rf.K79.loose) (d := HandSHeadRun.topDef Rf.K79.R.prog 85) (kwd := []) Rf.K79.ob_eq
    (by kernel_rfl) (fun s => by kernel_rfl) Rf.K79.run (by kernel_rfl) (by kernel_rfl) (by kernel_rfl) (by rfl) (by first | assumption | decide +kernel) (by decide +kernel) ⟨rfl, rfl, rfl, rfl, rfl, by decide +kernel⟩ ?hw ?hc
  case hw => w_witness2
  case hc =>
    refine L2.walk_ofE (l := PySem.Challenge.rw_provedbest_k79_errors_stand_beside_one_a) (n := 63) (k := 8) (x := "script") (CX := L2.CX0) rfl (by decide) (by kernel_rfl) ⟨rfl, by decide, by decide⟩ ?F (fun _ _ _ _ z => z)
    intro w mg fa h Y G hmg0
    obtain ⟨K, KX, c⟩ := Y
    have hmg : mg ("law" : PySem.Str) = some (.ref fa) := by
      have e : (HandSHeadRun.topDef Rf.K79.R.prog 85).name = ("law" : PySem.Str) := by kernel_rfl
      rw [← e]
      exact hmg0
    obtain ⟨W0, xb⟩ := Rf.WdE.of KX G c
    have W : Rf.K79.Wk K mg := ⟨W0, xb⟩
    obtain ⟨fd, F⟩ := W.says.def_ 40 rfl
    have e := hmg.symm.trans (W.fun_ 59)
    cases e
    exact ⟨K, fd, Rf.spLaw K, KX, fun s v => L2.FunD.bindsA (ps := ["script"]) F (fun _ _ _ _ _ _ us hl => match us, hl with | [_], _ => rfl) s [v] rfl, fun H a ns hl hO hS => ⟨a, ns, rfl, hl, Rf.sc_of hO hS, fun _ => rfl⟩, fun base _ _ => Rf.FnOk_imp (Rf.K79.fn_law W F) (Rf.spLaw_ok fun ns _ => Rf.K79.law_true ns)⟩
end
end

